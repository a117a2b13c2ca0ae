import PyProof.Rows.All
import HandS.Head0
import HandS.Head1
import HandS.Head2
import Wide.All
import OpenK.AllK
import Wide.FinOn
import HandS.Comp
import HandS.Exc
import HandS.WordsList
import HandS.Dict
import HandS.TryMany
import HandS.Lambda
import HandS.ExcField
import HandS.ExcCtx
import HandS.SuiteRaise
import HandS.RaiseFrom
import HandS.ExcInitHot
import HandS.Wide
import HandS.TupAny
import HandS.Text
import HandS.WordsDict
import HandS.Iter
import PyProof.LongRange
import HandS.Style
import HandS.ExcInit
import HandS.WordsExc
import HandS.IsInst
import HandS.SortInts
import HandS.SortRule
import HandS.Deep
import HandS.SortKw
import KE.KMinBuiltin
import KE.DataFind
import HandS.EndTab
import KE.KExcIs
import HandS.SetFor
import HandS.Strs
import HandS.Conv
import HandS.More
import HandS.Zip
import KE.SortData
import KE.DataCmp
import HandS.RaiseMore
import HandS.FStr
import PyProof.ListRange
import HandS.HeadHook3
import KE.GoesNew
import HandS.ListItems
import PyProof.StrBlock2
import KE.KDictZip
import KE.SortKeyHeap
import HandS.ReplaceLit
import KE.GoesRaise
import PySem.Challenge.RW_creelway_k49_texts_of_no_deed
set_option Elab.async false
set_option linter.all false
set_option maxRecDepth 100000
set_option maxHeartbeats 4000000

namespace VL
open PySem PySem.Spec PyProof.Rows L2

def NT (o : HO) : Prop := ∀ ps, o ≠ .tbl ps
structure Same (H H' : Hp) : Prop where
  k : ∀ b o, H b = some o → NT o ∨ H' b = none → H' b = some o
theorem Same.at {H H' : Hp} (e : Same H H') (b : Addr) (o : HO) (h : H b = some o) (nt : NT o := by intro _ z; cases z) : H' b = some o := e.k b o h (.inl nt)
theorem Same.refl (H : Hp) : Same H H := ⟨fun _ _ h _ => h⟩
theorem Same.free {H H' : Hp} (e : Same H H') {l : Addr} (h : H' l = none) : H l = none := by
  cases q : H l with
  | none => rfl
  | some o =>
    have z := e.k l o q (.inr h)
    rw [h] at z
    cases z
/-- a dict that lies open, or locked -/
theorem Same.rd {H H' : Hp} (e : Same H H') {a : Addr} {xs : List (Key × V)} (h : Rd H a (.dK xs)) : Rd H' a (.dK xs) := by
  rcases h with h | ⟨o, h⟩
  · exact .inl (e.at _ _ h)
  · exact .inr ⟨o, e.at _ _ h⟩
theorem Same.trans {H H1 H2 : Hp} (a : Same H H1) (b : Same H1 H2) : Same H H2 := ⟨fun c o h nt => by
  rcases nt with nt | nt
  · exact b.k c o (a.k c o h (.inl nt)) (.inl nt)
  · have z := a.k c o h (.inr (b.free nt))
    rw [b.free nt] at z
    cases z⟩
theorem Same.of {H H' : Hp} (e : L2.Same H H') : Same H H' := ⟨fun b o h _ => e b o h⟩
theorem Same.seq {K : PySem.W.Frag} {H H' : Hp} {a : Addr} {xs : List V} (e : Same H H') (h : SqL K H a xs) : SqL K H' a xs := by
  rcases h with (h | ⟨o, h⟩) | h
  · exact .inl (.inl (e.at _ _ h))
  · exact .inl (.inr ⟨o, e.at _ _ h⟩)
  · exact .inr h
/-- the name of a law's lambda -/
def lamQ : Str := "law.<locals>.<lambda>"

inductive D where
  | non
  | bl (b : Bool)
  | int (i : Int)
  | str (x : Str)
  | lst (xs : List D)
  | tup (xs : List D)
  | dct (kvs : List (Key × D))
  | obj (C : Str) (fs : List (Str × D))
  | scr (ns : List Int)
/-- the own classes by name; the written part -/
structure Cl where
  f : Str → Option Addr
  K : PySem.W.Frag
  o : Str → Option Addr

mutual
inductive Rep (cl : Cl) (H : Hp) : D → V → Prop
  | non : Rep cl H .non .non
  | bl (b : Bool) : Rep cl H (.bl b) (.bl b)
  | int (i : Int) : Rep cl H (.int i) (.int i)
  | str (x : Str) : Rep cl H (.str x) (.str x)
  | lst {a : Addr} {ds : List D} {xs : List V} : H a = some (.lst xs) → RepL cl H ds xs → Rep cl H (.lst ds) (.ref a)
  | tup {a : Addr} {ds : List D} {xs : List V} : H a = some (.tup xs) → RepL cl H ds xs → Rep cl H (.tup ds) (.ref a)
  | dct {a : Addr} {ds : List (Key × D)} {xs : List (Key × V)} : Rd H a (.dK xs) → RepK cl H ds xs → Rep cl H (.dct ds) (.ref a)
  | obj {a c dx : Addr} {C : Str} {ds : List (Str × D)} {xs : List (Str × V)} : cl.o C = some c → H a = some (.ins c dx xs) → RepF cl H ds xs → Rep cl H (.obj C ds) (.ref a)
  | scr {a : Addr} {ns : List Int} : SqL cl.K H a (ns.map V.int) → Rep cl H (.scr ns) (.ref a)
inductive RepL (cl : Cl) (H : Hp) : List D → List V → Prop
  | nil : RepL cl H [] []
  | cons {d : D} {ds : List D} {v : V} {vs : List V} : Rep cl H d v → RepL cl H ds vs → RepL cl H (d :: ds) (v :: vs)
inductive RepK (cl : Cl) (H : Hp) : List (Key × D) → List (Key × V) → Prop
  | nil : RepK cl H [] []
  | cons {k : Key} {d : D} {ds : List (Key × D)} {v : V} {vs : List (Key × V)} : Rep cl H d v → RepK cl H ds vs → RepK cl H ((k, d) :: ds) ((k, v) :: vs)
inductive RepF (cl : Cl) (H : Hp) : List (Str × D) → List (Str × V) → Prop
  | nil : RepF cl H [] []
  | cons {k : Str} {d : D} {ds : List (Str × D)} {v : V} {vs : List (Str × V)} : Rep cl H d v → RepF cl H ds vs → RepF cl H ((k, d) :: ds) ((k, v) :: vs)
end

section
variable {cl : Cl} {H H' : Hp}
mutual
theorem Rep.same (e : Same H H') : ∀ (d : D) (v : V), Rep cl H d v → Rep cl H' d v
  | .non, _, h => by cases h; exact .non
  | .bl b, _, h => by cases h; exact .bl b
  | .int i, _, h => by cases h; exact .int i
  | .str x, _, h => by cases h; exact .str x
  | .lst ds, _, h => by
    cases h with
    | lst h1 h2 => exact .lst (e.at _ _ h1) (RepL.same e ds _ h2)
  | .tup ds, _, h => by
    cases h with
    | tup h1 h2 => exact .tup (e.at _ _ h1) (RepL.same e ds _ h2)
  | .dct ds, _, h => by
    cases h with
    | dct h1 h2 => exact .dct (e.rd h1) (RepK.same e ds _ h2)
  | .obj C ds, _, h => by
    cases h with
    | obj h0 h1 h2 => exact .obj h0 (e.at _ _ h1) (RepF.same e ds _ h2)
  | .scr ns, _, h => by
    cases h with
    | scr h1 => exact .scr (e.seq h1)
theorem RepL.same (e : Same H H') : ∀ (ds : List D) (vs : List V), RepL cl H ds vs → RepL cl H' ds vs
  | [], _, h => by cases h; exact .nil
  | d :: ds, _, h => by
    cases h with
    | cons h1 h2 => exact .cons (Rep.same e d _ h1) (RepL.same e ds _ h2)
theorem RepK.same (e : Same H H') : ∀ (ds : List (Key × D)) (vs : List (Key × V)), RepK cl H ds vs → RepK cl H' ds vs
  | [], _, h => by cases h; exact .nil
  | (k, d) :: ds, _, h => by
    cases h with
    | cons h1 h2 => exact .cons (Rep.same e d _ h1) (RepK.same e ds _ h2)
theorem RepF.same (e : Same H H') : ∀ (ds : List (Str × D)) (vs : List (Str × V)), RepF cl H ds vs → RepF cl H' ds vs
  | [], _, h => by cases h; exact .nil
  | (k, d) :: ds, _, h => by
    cases h with
    | cons h1 h2 => exact .cons (Rep.same e d _ h1) (RepF.same e ds _ h2)
end
theorem RepL.length : ∀ {ds : List D} {vs : List V}, RepL cl H ds vs → vs.length = ds.length
  | [], _, h => by cases h; rfl
  | d :: ds, _, h => by
    cases h with
    | cons h1 h2 => rw [List.length_cons, List.length_cons, RepL.length h2]
theorem RepL.get : ∀ {ds : List D} {vs : List V} {i : Nat} {d : D}, RepL cl H ds vs → ds[i]? = some d → ∃ v, vs[i]? = some v ∧ Rep cl H d v
  | [], _, _, _, _, e => by simp at e
  | d :: ds, _, 0, _, h, e => by
    cases h with
    | cons h1 h2 =>
      simp at e
      subst e
      exact ⟨_, rfl, h1⟩
  | d :: ds, _, i + 1, _, h, e => by
    cases h with
    | cons h1 h2 =>
      obtain ⟨v, q, r⟩ := RepL.get (i := i) h2 (by simpa using e)
      exact ⟨v, by simpa using q, r⟩
theorem RepL.app : ∀ {ds ds' : List D} {vs vs' : List V}, RepL cl H ds vs → RepL cl H ds' vs' → RepL cl H (ds ++ ds') (vs ++ vs')
  | [], _, _, _, h, h' => by cases h; exact h'
  | d :: ds, _, _, _, h, h' => by
    cases h with
    | cons h1 h2 => exact .cons h1 (RepL.app h2 h')
theorem RepL.take : ∀ {ds : List D} {vs : List V} (n : Nat), RepL cl H ds vs → RepL cl H (ds.take n) (vs.take n)
  | _, _, 0, _ => .nil
  | [], _, _ + 1, h => by cases h; exact .nil
  | d :: ds, _, n + 1, h => by
    cases h with
    | cons h1 h2 => exact .cons h1 (RepL.take n h2)
theorem RepL.drop : ∀ {ds : List D} {vs : List V} (n : Nat), RepL cl H ds vs → RepL cl H (ds.drop n) (vs.drop n)
  | _, _, 0, h => h
  | [], _, _ + 1, h => by cases h; exact .nil
  | d :: ds, _, n + 1, h => by
    cases h with
    | cons h1 h2 => exact RepL.drop n h2
theorem RepL.set : ∀ {ds : List D} {vs : List V} {d : D} {v : V} (i : Nat), RepL cl H ds vs → Rep cl H d v → RepL cl H (ds.set i d) (vs.set i v)
  | [], _, _, _, _, h, _ => by cases h; exact .nil
  | d :: ds, _, _, _, 0, h, r => by
    cases h with
    | cons h1 h2 => exact .cons r h2
  | d :: ds, _, _, _, i + 1, h, r => by
    cases h with
    | cons h1 h2 => exact .cons h1 (RepL.set i h2 r)
theorem RepL.dropLast : ∀ {ds : List D} {vs : List V}, RepL cl H ds vs → RepL cl H ds.dropLast vs.dropLast := fun {ds vs} h => by
  rw [List.dropLast_eq_take, List.dropLast_eq_take, h.length]
  exact h.take _
theorem RepL.ofInts (ns : List Int) : RepL cl H (ns.map D.int) (ns.map V.int) := by
  induction ns with
  | nil => exact .nil
  | cons n ns ih => exact .cons (.int n) ih
end

/-- numbers, texts, truths, None -/
def D.bare : D → Bool
  | .non => true
  | .bl _ => true
  | .int _ => true
  | .str _ => true
  | _ => false
/-- no list, dict, object: what never changes -/
def D.plain : D → Bool
  | .lst _ => false
  | .dct _ => false
  | .obj _ _ => false
  | _ => true
theorem D.bare_plain {d : D} (h : d.bare = true) : d.plain = true := by cases d <;> first | rfl | (cases h; done)
mutual
inductive RB (cl : Cl) (Hs H : Hp) : D → V → Prop
  | val {d : D} {v : V} : Rep cl Hs d v → RB cl Hs H d v
  | lst {a : Addr} {ds : List D} {xs : List V} : H a = some (.lst xs) → RepL cl Hs ds xs → RB cl Hs H (.lst ds) (.ref a)
  | dct {a : Addr} {ds : List (Key × D)} {xs : List (Key × V)} : Rd H a (.dK xs) → RepK cl Hs ds xs → RB cl Hs H (.dct ds) (.ref a)
  | obj {a c dx : Addr} {C : Str} {ds : List (Str × D)} {xs : List (Str × V)} : cl.o C = some c → H a = some (.ins c dx xs) → RBF cl Hs H ds xs → RB cl Hs H (.obj C ds) (.ref a)
inductive RBF (cl : Cl) (Hs H : Hp) : List (Str × D) → List (Str × V) → Prop
  | nil : RBF cl Hs H [] []
  | cons {k : Str} {d : D} {ds : List (Str × D)} {v : V} {vs : List (Str × V)} : RB cl Hs H d v → RBF cl Hs H ds vs → RBF cl Hs H ((k, d) :: ds) ((k, v) :: vs)
end
section
variable {cl : Cl} {Hs Hs' H H' : Hp}
mutual
theorem RB.same (e : Same Hs Hs') (h : Same H H') : ∀ {d : D} {v : V}, RB cl Hs H d v → RB cl Hs' H' d v
  | _, _, .val r => .val (Rep.same e _ _ r)
  | _, _, .lst h1 h2 => .lst (h.at _ _ h1) (RepL.same e _ _ h2)
  | _, _, .dct h1 h2 => .dct (h.rd h1) (RepK.same e _ _ h2)
  | _, _, .obj h0 h1 h2 => .obj h0 (h.at _ _ h1) (RBF.same e h h2)
theorem RBF.same (e : Same Hs Hs') (h : Same H H') : ∀ {ds : List (Str × D)} {vs : List (Str × V)}, RBF cl Hs H ds vs → RBF cl Hs' H' ds vs
  | _, _, .nil => .nil
  | _, _, .cons a b => .cons (RB.same e h a) (RBF.same e h b)
end
end
inductive Kd where
  | val
  | bor
  | own (n : Option Addr)
  | obj (n : Option Addr) (ks : List (Str × Kd))
  | adr (a : Addr)
  | lls (n : Option Addr) (k : Kd)

mutual
/-- d lies at v: cl the classes, N what is new, B what was borrowed at the entry, Hs what stays as it is, H all; As: what may be changed -/
inductive ORep (cl : Cl) (N : Addr → Prop) (B Hs H : Hp) : Kd → D → V → List Addr → Prop
  | val {d : D} {v : V} : Rep cl Hs d v → ORep cl N B Hs H .val d v []
  | borV {d : D} {v : V} : Rep cl Hs d v → ORep cl N B Hs H .bor d v []
  | borL {a : Addr} {ds : List D} {xs : List V} : B a = some (.lst xs) → RepL cl Hs ds xs → ORep cl N B Hs H .bor (.lst ds) (.ref a) []
  | borK {a : Addr} {ds : List (Key × D)} {xs : List (Key × V)} : Rd B a (.dK xs) → RepK cl Hs ds xs → ORep cl N B Hs H .bor (.dct ds) (.ref a) []
  | borO {a c dx : Addr} {C : Str} {ds : List (Str × D)} {xs : List (Str × V)} : cl.o C = some c → B a = some (.ins c dx xs) → RBF cl Hs B ds xs → ORep cl N B Hs H .bor (.obj C ds) (.ref a) []
  | ownL {n : Option Addr} {a : Addr} {ds : List D} {xs : List V} : (N a ∧ ∀ b, n = some b → b = a) → H a = some (.lst xs) → RepL cl Hs ds xs → ORep cl N B Hs H (.own n) (.lst ds) (.ref a) [a]
  | ownK {n : Option Addr} {a : Addr} {ds : List (Key × D)} {xs : List (Key × V)} : (N a ∧ ∀ b, n = some b → b = a) → H a = some (.dK xs) → RepK cl Hs ds xs → ORep cl N B Hs H (.own n) (.dct ds) (.ref a) [a]
  | ownV {d : D} {v : V} : d.plain = true → Rep cl Hs d v → ORep cl N B Hs H (.own none) d v []
  | obj {n : Option Addr} {ks : List (Str × Kd)} {a c dx : Addr} {C : Str} {ds : List (Str × D)} {xs : List (Str × V)} {As : List Addr} :
      (N a ∧ ∀ b, n = some b → b = a) → cl.o C = some c → H a = some (.ins c dx xs) → OFs cl N B Hs H ks ds xs As → ORep cl N B Hs H (.obj n ks) (.obj C ds) (.ref a) (a :: As)
  | adr {a : Addr} : ORep cl N B Hs H (.adr a) .non (.ref a) []
  | lls {n : Option Addr} {k : Kd} {a : Addr} {ds : List D} {xs : List V} {As : List Addr} : (N a ∧ ∀ b, n = some b → b = a) → H a = some (.lst xs) → OLs cl N B Hs H k ds xs As → ORep cl N B Hs H (.lls n k) (.lst ds) (.ref a) (a :: As)
  | llT {n : Option Addr} {k : Kd} {a : Addr} {ds : List D} {xs : List V} {As : List Addr} : (N a ∧ ∀ b, n = some b → b = a) → H a = some (.tup xs) → OLs cl N B Hs H k ds xs As → ORep cl N B Hs H (.lls n k) (.tup ds) (.ref a) (a :: As)
  | llV {k : Kd} {d : D} {v : V} : d.bare = true → Rep cl Hs d v → ORep cl N B Hs H (.lls none k) d v []
inductive OFs (cl : Cl) (N : Addr → Prop) (B Hs H : Hp) : List (Str × Kd) → List (Str × D) → List (Str × V) → List Addr → Prop
  | nil : OFs cl N B Hs H [] [] [] []
  | cons {f : Str} {k : Kd} {d : D} {v : V} {A As : List Addr} {ks : List (Str × Kd)} {ds : List (Str × D)} {xs : List (Str × V)} :
      ORep cl N B Hs H k d v A → OFs cl N B Hs H ks ds xs As → OFs cl N B Hs H ((f, k) :: ks) ((f, d) :: ds) ((f, v) :: xs) (A ++ As)
/-- a list's items, each of kind k -/
inductive OLs (cl : Cl) (N : Addr → Prop) (B Hs H : Hp) : Kd → List D → List V → List Addr → Prop
  | nil {k : Kd} : OLs cl N B Hs H k [] [] []
  | cons {k : Kd} {d : D} {v : V} {A As : List Addr} {ds : List D} {xs : List V} : ORep cl N B Hs H k d v A → OLs cl N B Hs H k ds xs As → OLs cl N B Hs H k (d :: ds) (v :: xs) (A ++ As)
end

section
variable {cl : Cl} {N N' : Addr → Prop} {B B' Hs Hs' H H' : Hp}
theorem OLs.imp {k : Kd} (T : List Addr → Prop) (t1 : ∀ A As, T (A ++ As) → T A) (t2 : ∀ A As, T (A ++ As) → T As) (f : ∀ d v A, T A → ORep cl N B Hs H k d v A → ORep cl N' B' Hs' H' k d v A) : ∀ {ds : List D} {xs : List V} {As : List Addr}, T As → OLs cl N B Hs H k ds xs As → OLs cl N' B' Hs' H' k ds xs As
  | [], _, _, _, h => by cases h; exact .nil
  | d :: ds, _, _, t, h => by
    cases h with
    | cons h1 h2 => exact .cons (f _ _ _ (t1 _ _ t) h1) (OLs.imp T t1 t2 f (t2 _ _ t) h2)
theorem OLs.all {k : Kd} {P : Addr → Prop} (f : ∀ d v A, ORep cl N B Hs H k d v A → ∀ a ∈ A, P a) : ∀ {ds : List D} {xs : List V} {As : List Addr}, OLs cl N B Hs H k ds xs As → ∀ a ∈ As, P a
  | [], _, _, h => by cases h; intro a z; cases z
  | d :: ds, _, _, h => by
    cases h with
    | cons h1 h2 =>
      intro a z
      rcases List.mem_append.mp z with z | z
      · exact f _ _ _ h1 a z
      · exact OLs.all f h2 a z
theorem OLs.length {k : Kd} : ∀ {ds : List D} {xs : List V} {As : List Addr}, OLs cl N B Hs H k ds xs As → xs.length = ds.length
  | [], _, _, h => by cases h; rfl
  | d :: ds, _, _, h => by
    cases h with
    | cons h1 h2 => rw [List.length_cons, List.length_cons, OLs.length h2]
mutual
theorem ORep.mono (e : Same Hs Hs') (b : Same B B') (nn : ∀ a, N a → N' a) : ∀ (k : Kd) (d : D) (v : V) (A : List Addr), (∀ a ∈ A, H' a = H a) → ORep cl N B Hs H k d v A → ORep cl N' B' Hs' H' k d v A
  | .val, d, v, _, _, h => by
    cases h with
    | val h1 => exact .val (Rep.same e _ _ h1)
  | .bor, d, v, _, _, h => by
    cases h with
    | borV h1 => exact .borV (Rep.same e _ _ h1)
    | borL h1 h2 => exact .borL (b.at _ _ h1) (RepL.same e _ _ h2)
    | borK h1 h2 => exact .borK (b.rd h1) (RepK.same e _ _ h2)
    | borO h0 h1 h2 => exact .borO h0 (b.at _ _ h1) (RBF.same e b h2)
  | .own n, d, v, _, k, h => by
    cases h with
    | ownL h0 h1 h2 => exact .ownL ⟨nn _ h0.1, h0.2⟩ ((k _ List.mem_cons_self).trans h1) (RepL.same e _ _ h2)
    | ownK h0 h1 h2 => exact .ownK ⟨nn _ h0.1, h0.2⟩ ((k _ List.mem_cons_self).trans h1) (RepK.same e _ _ h2)
    | ownV h0 h1 => exact .ownV h0 (Rep.same e _ _ h1)
  | .obj n ks, d, v, _, k, h => by
    cases h with
    | obj h0 h1 h2 h3 => exact .obj ⟨nn _ h0.1, h0.2⟩ h1 ((k _ List.mem_cons_self).trans h2) (OFs.mono e b nn ks _ _ _ (fun a ha => k a (List.mem_cons_of_mem _ ha)) h3)
  | .adr a, d, v, _, _, h => by
    cases h with
    | adr => exact .adr
  | .lls n kd, d, v, _, k, h => by
    cases h with
    | lls h0 h1 h2 => exact .lls ⟨nn _ h0.1, h0.2⟩ ((k _ List.mem_cons_self).trans h1) (OLs.imp (fun A => ∀ a ∈ A, H' a = H a) (fun _ _ t a ha => t a (List.mem_append_left _ ha)) (fun _ _ t a ha => t a (List.mem_append_right _ ha)) (fun d v A t o => ORep.mono e b nn kd d v A t o) (fun a ha => k a (List.mem_cons_of_mem _ ha)) h2)
    | llT h0 h1 h2 => exact .llT ⟨nn _ h0.1, h0.2⟩ ((k _ List.mem_cons_self).trans h1) (OLs.imp (fun A => ∀ a ∈ A, H' a = H a) (fun _ _ t a ha => t a (List.mem_append_left _ ha)) (fun _ _ t a ha => t a (List.mem_append_right _ ha)) (fun d v A t o => ORep.mono e b nn kd d v A t o) (fun a ha => k a (List.mem_cons_of_mem _ ha)) h2)
    | llV h0 h1 => exact .llV h0 (Rep.same e _ _ h1)
theorem OFs.mono (e : Same Hs Hs') (b : Same B B') (nn : ∀ a, N a → N' a) : ∀ (ks : List (Str × Kd)) (ds : List (Str × D)) (xs : List (Str × V)) (A : List Addr), (∀ a ∈ A, H' a = H a) → OFs cl N B Hs H ks ds xs A → OFs cl N' B' Hs' H' ks ds xs A
  | [], _, _, _, _, h => by cases h; exact .nil
  | (f, kd) :: ks, _, _, _, k, h => by
    cases h with
    | cons h1 h2 => exact .cons (ORep.mono e b nn kd _ _ _ (fun a ha => k a (List.mem_append_left _ ha)) h1) (OFs.mono e b nn ks _ _ _ (fun a ha => k a (List.mem_append_right _ ha)) h2)
end
end
end VL

namespace VL
open PySem PySem.Spec PyProof.Rows L2

/-- an exception: its class's name, its field -/
structure Exc where
  cls : Str
  at_ : Option D
inductive R (α : Type) where
  | stuck
  | exc (x : Exc)
  | ok (a : α)
@[reducible] def R.bind {α β : Type} (r : R α) (k : α → R β) : R β := match r with
  | .stuck => .stuck
  | .exc x => .exc x
  | .ok a => k a
instance : Monad R where
  pure := R.ok
  bind := R.bind
@[simp] theorem R.ok_bind {α β : Type} (a : α) (k : α → R β) : (R.ok a >>= k) = k a := rfl
@[simp] theorem R.stuck_bind {α β : Type} (k : α → R β) : ((R.stuck : R α) >>= k) = .stuck := rfl
@[simp] theorem R.exc_bind {α β : Type} (x : Exc) (k : α → R β) : ((R.exc x : R α) >>= k) = .exc x := rfl
@[simp] theorem R.pure_eq {α : Type} (a : α) : (pure a : R α) = .ok a := rfl
abbrev Sl := List (Option D)
/-- a statement's end -/
inductive O where
  | stuck
  | nx (r : Sl)
  | rt (d : D) (r : Sl)
  | exc (x : Exc) (r : Sl)

structure Grow (Hs H Hs' H' : Hp) : Prop where
  s : Same Hs Hs'
  h : Same H H'
  n : ∀ a, Hs' a ≠ none → Hs a ≠ none ∨ H a = none
  sub : Same Hs' H'
  t : ∀ P, LamX.TabS H P lamQ → LamX.TabS H' P lamQ
theorem Grow.refl {Hs H : Hp} (e : Same Hs H) : Grow Hs H Hs H := ⟨Same.refl _, Same.refl _, fun _ z => .inl z, e, fun _ z => z⟩
theorem tab_upd {H : Hp} {p : Addr} {o : HO} (hp : H p = none) (P : Addr) (z : LamX.TabS H P lamQ) : LamX.TabS (upd H p o) P lamQ := z.ext fun b u q => by
  rw [upd_ne (ne_of_none q hp)]
  exact q
theorem Grow.trans {Hs H H1s H1 H2s H2 : Hp} (a : Grow Hs H H1s H1) (b : Grow H1s H1 H2s H2) : Grow Hs H H2s H2 where
  s := a.s.trans b.s
  h := a.h.trans b.h
  n := fun c z => by
    rcases b.n c z with q | q
    · exact a.n c q
    · exact .inr (a.h.free q)
  sub := b.sub
  t := fun P z => b.t P (a.t P z)
theorem Same.updNew {H : Hp} {p : Addr} {o : HO} (hp : H p = none) : Same H (upd H p o) := ⟨fun b u q _ => by
  rw [upd_ne (ne_of_none q hp)]
  exact q⟩
theorem Same.updBoth {Hs H : Hp} (e : Same Hs H) {p : Addr} {o : HO} : Same (upd Hs p o) (upd H p o) := ⟨fun b u q nt => by
  by_cases h : b = p
  · rw [h, upd_same] at q
    rw [h, upd_same]
    exact q
  · rw [upd_ne h] at q nt
    rw [upd_ne h]
    exact e.k _ _ q nt⟩
theorem tab_mut {H : Hp} {D : Addr} {o o' : HO} (hD : H D = some o) (P : Addr) (z : LamX.TabS H P lamQ) (n1 : NT o := by intro _ z; cases z) (n2 : ∀ c q, o ≠ LamX.CodeO c q := by intro _ _ z; unfold LamX.CodeO at z; cases z) : LamX.TabS (upd H D o') P lamQ := by
  obtain ⟨ps, h1, h2, h3⟩ := z
  have e : ∀ b u, H b = some u → u ≠ o → upd H D o' b = some u := fun b u q n => by
    rw [upd_ne fun w => n (by rw [w, hD] at q; exact (Option.some.inj q).symm)]
    exact q
  refine ⟨ps, e _ _ h1 fun w => n1 ps w.symm, h2, fun pos cv hc => ?_⟩
  obtain ⟨c, e1, e2⟩ := h3 pos cv hc
  exact ⟨c, e1, e _ _ e2 fun w => n2 c lamQ w.symm⟩
/-- a new stable object -/
theorem Grow.new {Hs H : Hp} (e : Same Hs H) {p : Addr} {o : HO} (hp : H p = none) : Grow Hs H (upd Hs p o) (upd H p o) where
  s := Same.updNew (e.free hp)
  h := Same.updNew hp
  n := fun a z => by
    by_cases h : a = p
    · exact .inr (h ▸ hp)
    · rw [upd_ne h] at z
      exact .inl z
  sub := Same.updBoth e
  t := tab_upd hp
/-- a new object that may yet be changed -/
theorem Grow.fresh {Hs H : Hp} (e : Same Hs H) {p : Addr} {o : HO} (hp : H p = none) : Grow Hs H Hs (upd H p o) where
  s := Same.refl _
  h := Same.updNew hp
  n := fun a z => .inl z
  sub := e.trans (Same.updNew hp)
  t := tab_upd hp
theorem Grow.same {Hs H H' : Hp} (e : Same Hs H) (k : Same H H') (tt : ∀ P, LamX.TabS H P lamQ → LamX.TabS H' P lamQ) : Grow Hs H Hs H' where
  s := Same.refl _
  h := k
  n := fun _ z => .inl z
  sub := e.trans k
  t := tt

/-- the entry of a def: the classes, the heap, what stays as it is, what may be read -/
structure En where
  cl : Cl
  h : Hp
  s : Hp
  b : Hp
def En.N (E : En) (a : Addr) : Prop := E.h a = none
inductive Slots (E : En) (Hs H : Hp) : List Kd → Sl → L2.St → List Addr → Prop
  | nil : Slots E Hs H [] [] [] []
  | skip {k : Kd} {x : Option V} {ks : List Kd} {r : Sl} {t : L2.St} {As : List Addr} : Slots E Hs H ks r t As → Slots E Hs H (k :: ks) (none :: r) (x :: t) As
  | cons {k : Kd} {d : D} {v : V} {A : List Addr} {ks : List Kd} {r : Sl} {t : L2.St} {As : List Addr} : ORep E.cl E.N E.b Hs H k d v A → Slots E Hs H ks r t As → Slots E Hs H (k :: ks) (some d :: r) (some v :: t) (A ++ As)
structure StOk (E : En) (Hs H : Hp) (ks : List Kd) (r : Sl) (t : L2.St) (As : List Addr) : Prop where
  sl : Slots E Hs H ks r t As
  nd : As.Nodup
  dis : ∀ a ∈ As, Hs a = none ∧ E.b a = none
  es : Same E.s Hs
  sub : Same Hs H
  eb : Same E.b H
  new : ∀ a, Hs a ≠ none → E.s a ≠ none ∨ E.h a = none
  dom : ∀ a, H a = none → E.h a = none
  tb : ∀ P, LamX.TabS E.h P lamQ → LamX.TabS H P lamQ
def StRel (E : En) (Hs H : Hp) (ks : List Kd) (r : Sl) (t : L2.St) : Prop := ∃ As, StOk E Hs H ks r t As

section
variable {E : En} {Hs H Hs' H' : Hp} {ks : List Kd} {r : Sl} {t : L2.St} {As : List Addr}
theorem Slots.mono (e : Same Hs Hs') : ∀ {ks : List Kd} {r : Sl} {t : L2.St} {As : List Addr}, (∀ a ∈ As, H' a = H a) → Slots E Hs H ks r t As → Slots E Hs' H' ks r t As
  | _, _, _, _, _, .nil => .nil
  | _, _, _, _, k, .skip h => .skip (Slots.mono e k h)
  | _, _, _, _, k, .cons h1 h2 => .cons (ORep.mono e (Same.refl _) (fun _ z => z) _ _ _ _ (fun a ha => k a (List.mem_append_left _ ha)) h1) (Slots.mono e (fun a ha => k a (List.mem_append_right _ ha)) h2)
mutual
theorem ORep.here {cl : Cl} {N : Addr → Prop} {B Hs H : Hp} : ∀ (k : Kd) (d : D) (v : V) (A : List Addr), ORep cl N B Hs H k d v A → ∀ a ∈ A, ∃ o, H a = some o ∧ NT o
  | .val, _, _, _, h => by cases h; intro a z; cases z
  | .bor, _, _, _, h => by cases h <;> (intro a z; cases z)
  | .own n, _, _, _, h => by
    cases h with
    | ownL _ h1 _ => intro a z; simp at z; subst z; exact ⟨_, h1, by intro _ z; cases z⟩
    | ownK _ h1 _ => intro a z; simp at z; subst z; exact ⟨_, h1, by intro _ z; cases z⟩
    | ownV _ _ => intro a z; cases z
  | .obj n ks, _, _, _, h => by
    cases h with
    | obj _ _ h2 h3 =>
      intro a z
      rcases List.mem_cons.mp z with e | z
      · rw [e]; exact ⟨_, h2, by intro _ z; cases z⟩
      · exact OFs.here ks _ _ _ h3 a z
  | .adr _, _, _, _, h => by cases h; intro a z; cases z
  | .lls n k, _, _, _, h => by
    cases h with
    | lls _ h1 h2 =>
      intro a z
      rcases List.mem_cons.mp z with e | z
      · rw [e]; exact ⟨_, h1, by intro _ z; cases z⟩
      · exact OLs.all (fun d v A o => ORep.here k d v A o) h2 a z
    | llT _ h1 h2 =>
      intro a z
      rcases List.mem_cons.mp z with e | z
      · rw [e]; exact ⟨_, h1, by intro _ z; cases z⟩
      · exact OLs.all (fun d v A o => ORep.here k d v A o) h2 a z
    | llV _ _ => intro a z; cases z
theorem OFs.here {cl : Cl} {N : Addr → Prop} {B Hs H : Hp} : ∀ (ks : List (Str × Kd)) (ds : List (Str × D)) (xs : List (Str × V)) (A : List Addr), OFs cl N B Hs H ks ds xs A → ∀ a ∈ A, ∃ o, H a = some o ∧ NT o
  | [], _, _, _, h => by cases h; intro a z; cases z
  | (f, k) :: ks, _, _, _, h => by
    cases h with
    | cons h1 h2 =>
      intro a z
      rcases List.mem_append.mp z with z | z
      · exact ORep.here k _ _ _ h1 a z
      · exact OFs.here ks _ _ _ h2 a z
end
theorem Slots.here : ∀ {ks : List Kd} {r : Sl} {t : L2.St} {As : List Addr}, Slots E Hs H ks r t As → ∀ a ∈ As, ∃ o, H a = some o ∧ NT o
  | _, _, _, _, .nil, a, z => by cases z
  | _, _, _, _, .skip h, a, z => Slots.here h a z
  | _, _, _, _, .cons h1 h2, a, z => by
    rcases List.mem_append.mp z with z | z
    · exact ORep.here _ _ _ _ h1 a z
    · exact Slots.here h2 a z
theorem Slots.len : ∀ {ks : List Kd} {r : Sl} {t : L2.St} {As : List Addr}, Slots E Hs H ks r t As → r.length = ks.length ∧ t.length = ks.length
  | _, _, _, _, .nil => ⟨rfl, rfl⟩
  | _, _, _, _, .skip h => by simp [Slots.len h]
  | _, _, _, _, .cons _ h => by simp [Slots.len h]
theorem StOk.grow (S : StOk E Hs H ks r t As) (g : Grow Hs H Hs' H') : StOk E Hs' H' ks r t As := by
  have hh := S.sl.here
  refine ⟨S.sl.mono g.s fun a ha => ?_, S.nd, fun a ha => ⟨?_, (S.dis a ha).2⟩, S.es.trans g.s, g.sub, S.eb.trans g.h, fun a z => ?_, fun a z => S.dom a (g.h.free z), fun P z => g.t P (S.tb P z)⟩
  · obtain ⟨o, e, nt⟩ := hh a ha
    rw [e]
    exact g.h.at _ _ e nt
  · cases q : Hs' a with
    | none => rfl
    | some u =>
      rcases g.n a (by rw [q]; simp) with z | z
      · exact absurd (S.dis a ha).1 z
      · obtain ⟨o, e, _⟩ := hh a ha
        rw [e] at z
        cases z
  · rcases g.n a z with q | q
    · exact S.new a q
    · exact .inr (S.dom a q)
theorem StRel.grow (S : StRel E Hs H ks r t) (g : Grow Hs H Hs' H') : StRel E Hs' H' ks r t := let ⟨As, q⟩ := S; ⟨As, q.grow g⟩
theorem StRel.sub (S : StRel E Hs H ks r t) : Same Hs H := let ⟨_, q⟩ := S; q.sub
/-- the place i of the state -/
theorem Slots.at_ : ∀ {ks : List Kd} {r : Sl} {t : L2.St} {As : List Addr} (i : Nat) {k : Kd}, Slots E Hs H ks r t As → ks[i]? = some k →
    ∃ (pre A post : List Addr), As = pre ++ (A ++ post) ∧ (∀ d, r[i]? = some (some d) → ∃ v, t[i]? = some (some v) ∧ ORep E.cl E.N E.b Hs H k d v A) ∧
      (∀ k' d v A', ORep E.cl E.N E.b Hs H k' d v A' → Slots E Hs H (ks.set i k') (r.set i (some d)) (t.set i (some v)) (pre ++ (A' ++ post))) ∧
      (∀ k' x, Slots E Hs H (ks.set i k') (r.set i none) (t.set i x) (pre ++ post)) ∧
      (∀ Hs' H', Same Hs Hs' → (∀ a ∈ pre ++ post, H' a = H a) → ∀ k' d v A', ORep E.cl E.N E.b Hs' H' k' d v A' → Slots E Hs' H' (ks.set i k') (r.set i (some d)) (t.set i (some v)) (pre ++ (A' ++ post)))
  | _, _, _, _, i, k, .nil, e => by simp at e
  | _, _, _, _, 0, k, .skip (k := k0) (r := r) (t := t) (As := As) h, e => by
    refine ⟨[], [], As, rfl, fun d z => ?_, fun k' d v A' o => .cons (A := A') (As := As) o h, fun k' x => .skip h, fun Hs' H' s q k' d v A' o => .cons (A := A') (As := As) o (h.mono s q)⟩
    have z' : (some none : Option (Option D)) = some (some d) := z
    cases z'
  | _, _, _, _, 0, k, .cons (k := k0) (d := d0) (v := v0) (A := A0) (As := As) o h, e => by
    have e' : k0 = k := by simpa using e
    subst e'
    refine ⟨[], A0, As, rfl, fun d z => ?_, fun k' d v A' o' => .cons (A := A') (As := As) o' h, fun k' x => .skip h, fun Hs' H' s q k' d v A' o => .cons (A := A') (As := As) o (h.mono s q)⟩
    have z' : (some (some d0) : Option (Option D)) = some (some d) := z
    cases z'
    exact ⟨v0, rfl, o⟩
  | _, _, _, _, i + 1, k, .skip h, e => by
    obtain ⟨pre, A, post, e1, e2, e3, e4, e5⟩ := Slots.at_ i h (by simpa using e)
    exact ⟨pre, A, post, e1, fun d z => e2 d (by simpa using z), fun k' d v A' o => .skip (e3 k' d v A' o), fun k' x => .skip (e4 k' x), fun Hs' H' s q k' d v A' o => .skip (e5 Hs' H' s q k' d v A' o)⟩
  | _, _, _, _, i + 1, k, .cons (A := A0) o h, e => by
    obtain ⟨pre, A, post, e1, e2, e3, e4, e5⟩ := Slots.at_ i h (by simpa using e)
    refine ⟨A0 ++ pre, A, post, by rw [e1, List.append_assoc], fun d z => e2 d (by simpa using z), fun k' d v A' o' => ?_, fun k' x => ?_, fun Hs' H' s q k' d v A' o' => ?_⟩
    · rw [List.append_assoc]
      exact .cons o (e3 k' d v A' o')
    · rw [List.append_assoc]
      exact .cons o (e4 k' x)
    · rw [List.append_assoc]
      exact .cons (ORep.mono s (Same.refl _) (fun _ z => z) _ _ _ _ (fun a ha => q a (List.mem_append_left _ (List.mem_append_left _ ha))) o)
        (e5 Hs' H' s (fun a ha => q a (by
          rcases List.mem_append.mp ha with z | z
          · exact List.mem_append_left _ (List.mem_append_right _ z)
          · exact List.mem_append_right _ z)) k' d v A' o')
end
end VL

namespace VL
open PySem PySem.Spec PyProof.Rows L2

class Md where
  n : Bool
@[reducible] def mZ : Md := ⟨false⟩
namespace ModeZ
scoped instance mZi : Md := mZ
end ModeZ
variable {md : Md}
def Takes [md : Md] (X : Cx) (W : WX) : Prop := match md.n with
  | true => L2N.Takes X W
  | false => L2.Takes X W
def CXM [md : Md] (P : Program) (w : World) : CXT := match md.n with
  | true => L2N.CX P w
  | false => L2.CX P w
theorem passAt {X : Cx} {W : WX} (tk : Takes X W) (σ : L2.St) : PassesAt (CXM X.prog X.w) X σ (WE W σ) := by
  cases md with
  | mk n => cases n with
    | false => exact L2.passAt tk σ
    | true => exact L2N.passAt tk σ
theorem takes_of {X : Cx} {E : XK} (hs : X.stack = X.env :: X.outer) (hf : X.env.frame = some X.env.locals) (hex : X.ex = []) {E₁ : Value → Shared → Prop}
    (hx : X.xe = fun e s' => wpAny (model X.prog X.w) X.A (leaving X.env e) (fun _ s'' => CXM X.prog X.w X.outer X.H_0 X.s_0 E e s'') E₁ s') : Takes X (fun cls d _ H => E cls d H) := by
  cases md with
  | mk n => cases n with
    | false => exact L2.takes_of hs hf hex hx
    | true => exact L2N.takes_of hs hf hex hx
theorem takesF {X : Cx} : Takes X (fun _ _ _ _ => False) := by
  obtain ⟨n⟩ := md
  cases n
  · intro _ _ x
    obtain ⟨_, _, _, _, _, _, _, _, _, _, _, _, _, _, _, _, z⟩ := x
    exact z.elim
  · intro _ _ x
    obtain ⟨_, _, _, _, _, _, _, _, _, _, _, _, _, _, _, _, z⟩ := x
    exact z.elim
def WEx (X : Cx) (e : Expr) : TE := fun σ H Q => ∀ (pins : List (Addr × Obj)) (s : Shared), Inv X pins σ H s → wpAny (model X.prog X.w) X.A (eval e X.env) (EP X pins σ Q) X.xe s
theorem pe_we {X : Cx} {e : Expr} : PE X e (WEx X e) := ⟨fun pins s _ _ _ I h => h pins s I⟩
theorem we_of {X : Cx} {e : Expr} {t : TE} {σ : L2.St} {H : Hp} {Q : VK} (p : PE X e t) (h : t σ H Q) : WEx X e σ H Q := fun pins s I => p.run pins s σ H Q I h
def WTx (X : Cx) (e : Expr) : TT := fun σ H Q => ∀ (pins : List (Addr × Obj)) (s : Shared), Inv X pins σ H s → wpAny (model X.prog X.w) X.A (isTrue e X.env (eval e X.env)) (TP X pins σ Q) X.xe s
theorem pt_wt {X : Cx} {e : Expr} : PT X e (WTx X e) := ⟨fun pins s _ _ _ I h => h pins s I⟩
theorem wt_of {X : Cx} {e : Expr} {t : TT} {σ : L2.St} {H : Hp} {Q : Bool → Hp → Prop} (p : PT X e t) (h : t σ H Q) : WTx X e σ H Q := fun pins s I => p.run pins s σ H Q I h
def WAx (X : Cx) (es : List Expr) : TA := fun σ H Q => ∀ (pos : Pos) (pins : List (Addr × Obj)) (s : Shared), Inv X pins σ H s → wpAny (model X.prog X.w) X.A (spliced (backTo pos (starEach es X.env))) (AP X pins σ Q) X.xe s
theorem pa_wa {X : Cx} {es : List Expr} : PA X es (WAx X es) := ⟨fun pos pins s _ _ _ I h => h pos pins s I⟩
theorem wa_of {X : Cx} {es : List Expr} {t : TA} {σ : L2.St} {H : Hp} {Q : List V → Hp → Prop} (p : PA X es t) (h : t σ H Q) : WAx X es σ H Q := fun pos pins s I => p.run pos pins s σ H Q I h
def WSx (X : Cx) (st : Stmt) : TS := fun Dn σ H => ∀ (pins : List (Addr × Obj)) (s : Shared), Inv X pins σ H s → wpAny (model X.prog X.w) X.A (exec st X.env) (SP X pins Dn) X.xe s
theorem ps_ws {X : Cx} {st : Stmt} : PS X st (WSx X st) := ⟨fun pins s _ _ _ I h => h pins s I⟩
theorem ws_of {X : Cx} {st : Stmt} {t : TS} {σ : L2.St} {H : Hp} {Dn : Ends} (p : PS X st t) (h : t Dn σ H) : WSx X st Dn σ H := fun pins s I => p.run pins s σ H Dn I h
def WSs (X : Cx) (st : List Stmt) : TS := fun Dn σ H => ∀ (pins : List (Addr × Obj)) (s : Shared), Inv X pins σ H s → wpAny (model X.prog X.w) X.A (execs st X.env) (SP X pins Dn) X.xe s
theorem pss_ws {X : Cx} {st : List Stmt} : PSs X st (WSs X st) := ⟨fun pins s _ _ _ I h => h pins s I⟩
theorem wss_of {X : Cx} {st : List Stmt} {t : TS} {σ : L2.St} {H : Hp} {Dn : Ends} (p : PSs X st t) (h : t Dn σ H) : WSs X st Dn σ H := fun pins s I => p.run pins s σ H Dn I h

/-- d lies at v behind a step from the heap H0 -/
def RK (cl : Cl) (k : Kd) (H0 Hs H : Hp) (d : D) (v : V) : Prop :=
  ∃ A, ORep cl (fun a => H0 a = none) H Hs H k d v A ∧ A.Nodup ∧ ∀ a ∈ A, Hs a = none ∧ H0 a = none
def XRep (cl : Cl) (Hs H : Hp) (x : Exc) (c : Value) (dd : Option Addr) : Prop :=
  ∃ a, cl.f x.cls = some a ∧ c = .ref a ∧ match x.at_ with
    | none => dd = none
    | some d => ∃ p v, dd = some p ∧ Hs p = some (.xd [("at", v)]) ∧ Rep cl Hs d v
abbrev WX0 := Value → Option Addr → Hp → Prop
def Post (cl : Cl) (k : Kd) (Hs H : Hp) (Q : VK) (W : WX0) : R D → Prop
  | .stuck => False
  | .exc x => ∀ c dd Hs' H', Grow Hs H Hs' H' → XRep cl Hs' H' x c dd → W c dd H'
  | .ok d => ∀ v Hs' H', Grow Hs H Hs' H' → RK cl k H Hs' H' d v → Q v H'
section
variable {cl : Cl} {k k1 k2 : Kd} {Hs H Hs' H' : Hp} {Q Q1 : VK} {W : WX0}
theorem Post.grow {r : R D} (P : Post cl k Hs H Q W r) (g : Grow Hs H Hs' H') : Post cl k Hs' H' Q W r := by
  cases r with
  | stuck => exact P
  | exc x => exact fun c dd Hs2 H2 g2 x2 => P c dd Hs2 H2 (g.trans g2) x2
  | ok d =>
    intro v Hs2 H2 g2 ⟨A, o, nd, z⟩
    exact P v Hs2 H2 (g.trans g2) ⟨A, ORep.mono (Same.refl _) (Same.refl _) (fun a q => g.h.free q) _ _ _ _ (fun _ _ => rfl) o, nd, fun a ha => ⟨(z a ha).1, g.h.free (z a ha).2⟩⟩
theorem Post.imp {r : R D} {F : D → R D} (P : Post cl k2 Hs H Q W (r >>= F))
    (h : ∀ d v Hs' H', r = .ok d → Grow Hs H Hs' H' → RK cl k1 H Hs' H' d v → Post cl k2 Hs' H' Q W (F d) → Q1 v H') : Post cl k1 Hs H Q1 W r := by
  cases r with
  | stuck => exact P
  | exc x => exact P
  | ok d => exact fun v Hs' H' g rk => h d v Hs' H' rfl g rk (Post.grow (r := F d) P g)
/-- what was owned may be frozen -/
def Kd.fine : Kd → Bool
  | .bor => false
  | .adr _ => false
  | .obj _ ks => fines ks
  | .lls _ k => Kd.fine k
  | _ => true
where
  fines : List (Str × Kd) → Bool
    | [] => true
    | (_, k) :: r => Kd.fine k && fines r
theorem OLs.reps {N : Addr → Prop} {B Hs H T : Hp} {k : Kd} (Q : List Addr → Prop) (t1 : ∀ A As, Q (A ++ As) → Q A) (t2 : ∀ A As, Q (A ++ As) → Q As) (f : ∀ d v A, Q A → ORep cl N B Hs H k d v A → Rep cl T d v) : ∀ {ds : List D} {xs : List V} {As : List Addr}, Q As → OLs cl N B Hs H k ds xs As → RepL cl T ds xs
  | [], _, _, _, h => by cases h; exact .nil
  | d :: ds, _, _, t, h => by
    cases h with
    | cons h1 h2 => exact .cons (f _ _ _ (t1 _ _ t) h1) (OLs.reps Q t1 t2 f (t2 _ _ t) h2)
mutual
theorem ORep.freeze {N : Addr → Prop} {B T : Hp} (e : Same Hs T) : ∀ (k : Kd) (d : D) (v : V) (A : List Addr), k.fine = true → (∀ a ∈ A, T a = H a) → ORep cl N B Hs H k d v A → Rep cl T d v
  | .val, _, _, _, _, _, h => by
    cases h with
    | val h1 => exact Rep.same e _ _ h1
  | .bor, _, _, _, z, _, _ => by cases z
  | .own n, _, _, _, _, t, h => by
    cases h with
    | ownL _ h1 h2 => exact .lst ((t _ List.mem_cons_self).trans h1) (RepL.same e _ _ h2)
    | ownK _ h1 h2 => exact .dct (.inl ((t _ List.mem_cons_self).trans h1)) (RepK.same e _ _ h2)
    | ownV _ h1 => exact Rep.same e _ _ h1
  | .obj n ks, _, _, _, z, t, h => by
    cases h with
    | obj _ h1 h2 h3 => exact .obj h1 ((t _ List.mem_cons_self).trans h2) (OFs.freeze e ks _ _ _ (by simpa [Kd.fine] using z) (fun a ha => t a (List.mem_cons_of_mem _ ha)) h3)
  | .adr _, _, _, _, z, _, _ => by cases z
  | .lls n k, _, _, _, z, t, h => by
    cases h with
    | lls _ h1 h2 => exact .lst ((t _ List.mem_cons_self).trans h1) (OLs.reps (fun A => ∀ a ∈ A, T a = H a) (fun _ _ t a ha => t a (List.mem_append_left _ ha)) (fun _ _ t a ha => t a (List.mem_append_right _ ha)) (fun d v A t o => ORep.freeze e k d v A z t o) (fun a ha => t a (List.mem_cons_of_mem _ ha)) h2)
    | llT _ h1 h2 => exact .tup ((t _ List.mem_cons_self).trans h1) (OLs.reps (fun A => ∀ a ∈ A, T a = H a) (fun _ _ t a ha => t a (List.mem_append_left _ ha)) (fun _ _ t a ha => t a (List.mem_append_right _ ha)) (fun d v A t o => ORep.freeze e k d v A z t o) (fun a ha => t a (List.mem_cons_of_mem _ ha)) h2)
    | llV _ h1 => exact Rep.same e _ _ h1
theorem OFs.freeze {N : Addr → Prop} {B T : Hp} (e : Same Hs T) : ∀ (ks : List (Str × Kd)) (ds : List (Str × D)) (xs : List (Str × V)) (A : List Addr), Kd.fine.fines ks = true → (∀ a ∈ A, T a = H a) → OFs cl N B Hs H ks ds xs A → RepF cl T ds xs
  | [], _, _, _, _, _, h => by cases h; exact .nil
  | (f, k) :: ks, _, _, _, z, t, h => by
    have z' : k.fine = true ∧ Kd.fine.fines ks = true := by simpa [Kd.fine.fines] using z
    cases h with
    | cons h1 h2 => exact .cons (ORep.freeze e k _ _ _ z'.1 (fun a ha => t a (List.mem_append_left _ ha)) h1) (OFs.freeze e ks _ _ _ z'.2 (fun a ha => t a (List.mem_append_right _ ha)) h2)
end
/-- the stable heap with A -/
def plus (Hs H : Hp) (A : List Addr) : Hp := fun a => if a ∈ A then H a else Hs a
theorem plus_same {A : List Addr} (z : ∀ a ∈ A, Hs a = none) : Same Hs (plus Hs H A) := ⟨fun b o q _ => by
  unfold plus
  rw [if_neg fun h => by rw [z b h] at q; cases q]
  exact q⟩
theorem plus_sub {A : List Addr} (e : Same Hs H) : Same (plus Hs H A) H := ⟨fun b o q nt => by
  unfold plus at q
  split at q
  · exact q
  · exact e.k _ _ q nt⟩
theorem RK.freeze {H0 : Hp} {d : D} {v : V} (g : Grow Hs H Hs' H') (f : k.fine = true) (h : RK cl k H Hs' H' d v) : ∃ Hs2, Grow Hs H Hs2 H' ∧ RK cl .val H Hs2 H' d v := by
  obtain ⟨A, o, nd, z⟩ := h
  have e := plus_same (H := H') fun a ha => (z a ha).1
  refine ⟨plus Hs' H' A, ⟨g.s.trans e, g.h, fun a q => ?_, plus_sub g.sub, g.t⟩, [], .val (ORep.freeze e k _ _ A f (fun a ha => by unfold plus; rw [if_pos ha]) o), List.nodup_nil, fun a ha => nomatch ha⟩
  unfold plus at q
  split at q
  · rename_i ha
    exact .inr (z a ha).2
  · exact g.n a q
theorem RK.val {H0 : Hp} {d : D} {v : V} (h : Rep cl Hs d v) : RK cl .val H0 Hs H d v := ⟨[], .val h, List.nodup_nil, fun a ha => nomatch ha⟩
theorem RK.bor {H0 : Hp} {d : D} {v : V} (h : Rep cl Hs d v) : RK cl .bor H0 Hs H d v := ⟨[], .borV h, List.nodup_nil, fun a ha => nomatch ha⟩
theorem RK.rep {H0 : Hp} {d : D} {v : V} (h : RK cl .val H0 Hs H d v) : Rep cl Hs d v := by
  obtain ⟨A, o, _⟩ := h
  cases o with
  | val r => exact r
theorem RK.rb {H0 : Hp} {d : D} {v : V} (h : RK cl .bor H0 Hs H d v) : RB cl Hs H d v := by
  obtain ⟨A, o, _⟩ := h
  cases o with
  | borV r => exact .val r
  | borL h1 h2 => exact .lst h1 h2
  | borK h1 h2 => exact .dct h1 h2
  | borO h0 h1 h2 => exact .obj h0 h1 h2
theorem RB.grow {d : D} {v : V} (h : RB cl Hs H d v) (g : Grow Hs H Hs' H') : RB cl Hs' H' d v := by
  cases h with
  | val r => exact .val (Rep.same g.s _ _ r)
  | lst h1 h2 => exact .lst (g.h.at _ _ h1) (RepL.same g.s _ _ h2)
  | dct h1 h2 => exact .dct (g.h.rd h1) (RepK.same g.s _ _ h2)
  | obj h0 h1 h2 => exact .obj h0 (g.h.at _ _ h1) (RBF.same g.s g.h h2)
theorem RB.rk {H0 : Hp} {d : D} {v : V} (h : RB cl Hs H d v) : RK cl .bor H0 Hs H d v := by
  refine ⟨[], ?_, List.nodup_nil, fun a ha => nomatch ha⟩
  cases h with
  | val r => exact .borV r
  | lst h1 h2 => exact .borL h1 h2
  | dct h1 h2 => exact .borK h1 h2
  | obj h0 h1 h2 => exact .borO h0 h1 h2
/-- a borrowed list -/
theorem RB.lstInv {ds : List D} {v : V} (h : RB cl Hs H (.lst ds) v) (e : Same Hs H) : ∃ a xs, v = .ref a ∧ H a = some (.lst xs) ∧ RepL cl Hs ds xs := by
  cases h with
  | val r =>
    cases r with
    | lst h1 h2 => exact ⟨_, _, rfl, e.at _ _ h1, h2⟩
  | lst h1 h2 => exact ⟨_, _, rfl, h1, h2⟩
theorem RB.tupInv {ds : List D} {v : V} (h : RB cl Hs H (.tup ds) v) (e : Same Hs H) : ∃ a xs, v = .ref a ∧ H a = some (.tup xs) ∧ RepL cl Hs ds xs := by
  cases h with
  | val r =>
    cases r with
    | tup h1 h2 => exact ⟨_, _, rfl, e.at _ _ h1, h2⟩
theorem RB.dctInv {ds : List (Key × D)} {v : V} (h : RB cl Hs H (.dct ds) v) (e : Same Hs H) : ∃ a xs, v = .ref a ∧ Rd H a (.dK xs) ∧ RepK cl Hs ds xs := by
  cases h with
  | val r =>
    cases r with
    | dct h1 h2 => exact ⟨_, _, rfl, e.rd h1, h2⟩
  | dct h1 h2 => exact ⟨_, _, rfl, h1, h2⟩
theorem RB.intInv {i : Int} {v : V} (h : RB cl Hs H (.int i) v) : v = .int i := by
  cases h with
  | val r => cases r; rfl
theorem RB.blInv {i : Bool} {v : V} (h : RB cl Hs H (.bl i) v) : v = .bl i := by
  cases h with
  | val r => cases r; rfl
theorem RB.strInv {i : Str} {v : V} (h : RB cl Hs H (.str i) v) : v = .str i := by
  cases h with
  | val r => cases r; rfl
theorem RB.nonInv {v : V} (h : RB cl Hs H .non v) : v = .non := by
  cases h with
  | val r => cases r; rfl
/-- a new list, not yet stable -/
theorem RK.ownNew {ds : List D} {xs : List V} {p : Addr} (e : Same Hs H) (hp : H p = none) (r : RepL cl Hs ds xs) : RK cl (.own none) H Hs (upd H p (.lst xs)) (.lst ds) (.ref p) :=
  ⟨[p], .ownL ⟨hp, fun _ z => nomatch z⟩ upd_same r, by simp, fun a ha => by
    have q : a = p := by simpa using ha
    subst q
    exact ⟨e.free hp, hp⟩⟩
theorem RK.ownPlain {H0 : Hp} {d : D} {v : V} (p : d.plain = true) (r : Rep cl Hs d v) : RK cl (.own none) H0 Hs H d v := ⟨[], .ownV p r, List.nodup_nil, fun a ha => nomatch ha⟩
/-- the end of a value that is plain -/
theorem Post.fin {d : D} {v : V} (P : Post cl (.own none) Hs H Q W (.ok d)) (e : Same Hs H) (p : d.plain = true) (r : Rep cl Hs d v) : Q v H := P v Hs H (Grow.refl e) (RK.ownPlain p r)
theorem Post.finV {d : D} {v : V} (P : Post cl .val Hs H Q W (.ok d)) (e : Same Hs H) (r : Rep cl Hs d v) : Q v H := P v Hs H (Grow.refl e) (RK.val r)
theorem Post.finL {ds : List D} {xs : List V} {p : Addr} (P : Post cl (.own none) Hs H Q W (.ok (.lst ds))) (e : Same Hs H) (hp : H p = none) (r : RepL cl Hs ds xs) : Q (.ref p) (upd H p (.lst xs)) :=
  P _ Hs _ (Grow.fresh e hp) (RK.ownNew e hp r)
end

structure SE [md : Md] (X : Cx) (E : En) (ks : List Kd) (k : Kd) (e : Expr) (g : Sl → R D) : Prop where
  run : ∀ (Hs H : Hp) (r : Sl) (σ : L2.St) (W : WX) (Q : VK), Takes X W → StRel E Hs H ks r σ → Post E.cl k Hs H Q (fun c dd H' => W c dd σ H') (g r) → WEx X e σ H Q
section
variable {X : Cx} {E : En} {ks : List Kd} {e : Expr} {g : Sl → R D}
theorem SE.toVal {k : Kd} (h : SE X E ks k e g) (f : k.fine = true := by rfl) : SE X E ks .val e g := by
  refine ⟨fun Hs H r σ W Q tk S P => ?_⟩
  refine h.run Hs H r σ W Q tk S ?_
  cases q : g r with
  | stuck => rw [q] at P; exact P
  | exc x => rw [q] at P; exact P
  | ok d =>
    rw [q] at P
    intro v Hs' H' gr rk
    obtain ⟨Hs2, g2, rk2⟩ := rk.freeze (H0 := H) gr f
    exact P v Hs2 H' g2 rk2
theorem SE.valBor (h : SE X E ks .val e g) : SE X E ks .bor e g := by
  refine ⟨fun Hs H r σ W Q tk S P => ?_⟩
  refine h.run Hs H r σ W Q tk S ?_
  cases q : g r with
  | stuck => rw [q] at P; exact P
  | exc x => rw [q] at P; exact P
  | ok d =>
    rw [q] at P
    intro v Hs' H' gr rk
    exact P v Hs' H' gr (RK.bor rk.rep)
theorem SE.toBor {k : Kd} (h : SE X E ks k e g) (f : k.fine = true := by rfl) : SE X E ks .bor e g := (h.toVal f).valBor
end
end VL

noncomputable section
namespace VL
open PySem PySem.Spec PyProof.Rows L2
variable {md : Md}

def NmOk (x : Str) : Prop := (x == ("__debug__" : Str)) = false ∧ (x == ("__classdict__" : Str)) = false
@[simp] def gVar (i : Nat) : Sl → R D := fun r => match r[i]? with
  | some (some d) => .ok d
  | _ => .stuck
@[simp] def gC (d : D) : Sl → R D := fun _ => .ok d
/-- a kind that may be borrowed -/
def Kd.lends : Kd → Bool
  | .obj _ ks => lendf ks
  | .adr _ => false
  | .lls _ _ => false
  | _ => true
where
  lendf : List (Str × Kd) → Bool
    | [] => true
    | (_, k) :: r => Kd.lends k && lendf r
section
variable {cl : Cl} {N : Addr → Prop} {B Hs H : Hp}
mutual
theorem ORep.rb (eb : Same B H) : ∀ (k : Kd) (d : D) (v : V) (A : List Addr), k.lends = true → ORep cl N B Hs H k d v A → RB cl Hs H d v
  | .val, _, _, _, _, h => by cases h with | val rp => exact .val rp
  | .bor, _, _, _, _, h => by
    cases h with
    | borV rp => exact .val rp
    | borL h1 h2 => exact .lst (eb.at _ _ h1) h2
    | borK h1 h2 => exact .dct (eb.rd h1) h2
    | borO h0 h1 h2 => exact .obj h0 (eb.at _ _ h1) (RBF.same (Same.refl _) eb h2)
  | .own n, _, _, _, _, h => by
    cases h with
    | ownL h0 h1 h2 => exact .lst h1 h2
    | ownK h0 h1 h2 => exact .dct (.inl h1) h2
    | ownV h0 h1 => exact .val h1
  | .obj n ks, _, _, _, l, h => by
    cases h with
    | obj h0 h1 h2 h3 => exact .obj h1 h2 (OFs.rb eb ks _ _ _ (by simpa [Kd.lends] using l) h3)
  | .adr a, _, _, _, l, _ => by cases l
  | .lls n k, _, _, _, l, _ => by cases l
theorem OFs.rb (eb : Same B H) : ∀ (ks : List (Str × Kd)) (ds : List (Str × D)) (xs : List (Str × V)) (A : List Addr), Kd.lends.lendf ks = true → OFs cl N B Hs H ks ds xs A → RBF cl Hs H ds xs
  | [], _, _, _, _, h => by cases h; exact .nil
  | (f, k) :: ks, _, _, _, l, h => by
    have l' : k.lends = true ∧ Kd.lends.lendf ks = true := by simpa [Kd.lends.lendf] using l
    cases h with
    | cons h1 h2 => exact .cons (ORep.rb eb k _ _ _ l'.1 h1) (OFs.rb eb ks _ _ _ l'.2 h2)
end
end
section
variable {X : Cx} {E : En} {ks : List Kd}
theorem StRel.get {Hs H : Hp} {r : Sl} {σ : L2.St} {i : Nat} {k : Kd} {d : D} (S : StRel E Hs H ks r σ) (hk : ks[i]? = some k) (hd : r[i]? = some (some d)) : ∃ v A, σ[i]? = some (some v) ∧ ORep E.cl E.N E.b Hs H k d v A := by
  obtain ⟨As, s⟩ := S
  obtain ⟨pre, A, post, _, h, _⟩ := s.sl.at_ i hk
  obtain ⟨v, e, o⟩ := h d hd
  exact ⟨v, A, e, o⟩
theorem gVar_ok {i : Nat} {r : Sl} {d : D} (h : gVar i r = .ok d) : r[i]? = some (some d) := by
  unfold gVar at h
  split at h
  · rename_i d' e
    cases h
    exact e
  · cases h
theorem gVar_exc {i : Nat} {r : Sl} {x : Exc} (h : gVar i r = .exc x) : False := by
  unfold gVar at h
  split at h <;> cases h
theorem se_var {i : Nat} {x : Str} {pos : Pos} (hk : ks[i]? = some .val := by rfl) (hN : X.N[i]? = some x := by rfl) (hv : Vis X.env.scope x := by first | exact Or.inl rfl | exact Or.inr (Or.inl rfl) | exact Or.inr (Or.inr rfl))
    (hq : NmOk x) : SE X E ks .val (.Name x pos) (gVar i) := by
  refine ⟨fun Hs H r σ W Q tk S P => ?_⟩
  refine we_of (pe_var hN hv hq.1 hq.2) ?_
  cases q : gVar i r with
  | stuck => rw [q] at P; exact P.elim
  | exc x => exact (gVar_exc q).elim
  | ok d =>
    rw [q] at P
    obtain ⟨v, A, e, o⟩ := S.get hk (gVar_ok q)
    cases o with
    | val rp => exact ⟨v, e, P.finV S.sub rp⟩
theorem se_varB {i : Nat} {k : Kd} {x : Str} {pos : Pos} (hk : ks[i]? = some k := by rfl) (hl : k.lends = true := by rfl) (hN : X.N[i]? = some x := by rfl) (hv : Vis X.env.scope x := by first | exact Or.inl rfl | exact Or.inr (Or.inl rfl) | exact Or.inr (Or.inr rfl))
    (hq : NmOk x) : SE X E ks .bor (.Name x pos) (gVar i) := by
  refine ⟨fun Hs H r σ W Q tk S P => ?_⟩
  refine we_of (pe_var hN hv hq.1 hq.2) ?_
  cases q : gVar i r with
  | stuck => rw [q] at P; exact P.elim
  | exc x => exact (gVar_exc q).elim
  | ok d =>
    rw [q] at P
    obtain ⟨v, A, e, o⟩ := S.get hk (gVar_ok q)
    have eb : Same E.b H := let ⟨_, s⟩ := S; s.eb
    exact ⟨v, e, P v Hs H (Grow.refl S.sub) (RB.rk (ORep.rb eb k _ _ _ hl o))⟩
theorem se_int {i : Int} {j : Nat} {pos : Pos} : SE X E ks .val (.Constant (.int i) j pos) (gC (.int i)) := ⟨fun Hs H r σ W Q tk S P => we_of pe_int (P.finV S.sub (.int i))⟩
theorem se_bl {b : Bool} {j : Nat} {pos : Pos} : SE X E ks .val (.Constant (.bool b) j pos) (gC (.bl b)) := ⟨fun Hs H r σ W Q tk S P => we_of pe_bl (P.finV S.sub (.bl b))⟩
theorem se_non {j : Nat} {pos : Pos} : SE X E ks .val (.Constant .none j pos) (gC .non) := ⟨fun Hs H r σ W Q tk S P => we_of pe_non (P.finV S.sub .non)⟩
theorem se_str {x : Str} {j : Nat} {pos : Pos} : SE X E ks .val (.Constant (.str x) j pos) (gC (.str x)) := ⟨fun Hs H r σ W Q tk S P => we_of pe_str (P.finV S.sub (.str x))⟩
/-- a module's constant: a number, a text -/
theorem se_globI {x : Str} {i : Int} {t : Tok} {pos : Pos} (hm : X.mg x = some (.int i t)) (hq : NmOk x) (hg : Gl X x := by rfl) : SE X E ks .val (.Name x pos) (gC (.int i)) :=
  ⟨fun Hs H r σ W Q tk S P => we_of (pe_glob (v := .int i) hg hm ⟨t, rfl⟩ hq.1) (P.finV S.sub (.int i))⟩
theorem se_globS {x y : Str} {t : Tok} {pos : Pos} (hm : X.mg x = some (.str y t)) (hq : NmOk x) (hg : Gl X x := by rfl) : SE X E ks .val (.Name x pos) (gC (.str y)) :=
  ⟨fun Hs H r σ W Q tk S P => we_of (pe_glob (v := .str y) hg hm ⟨t, rfl⟩ hq.1) (P.finV S.sub (.str y))⟩
end

def OpV (K : PySem.W.Frag) (rr : R2) (k : Kd) (f : D → D → R D) : Prop :=
  ∀ (cl : Cl) (Hs H : Hp) (d1 d2 : D) (v1 v2 : V) (Q : VK) (W : WX0), Same Hs H → RB cl Hs H d1 v1 → RB cl Hs H d2 v2 → Post cl k Hs H Q W (f d1 d2) → (∀ x, f d1 d2 ≠ .exc x) → rr v1 v2 H Q
@[simp] def gBin (f : D → D → R D) (ga gb : Sl → R D) : Sl → R D := fun r => do
  let a ← ga r
  let b ← gb r
  f a b
def NoX (f : D → D → R D) : Prop := ∀ a b x, f a b ≠ .exc x
section
variable {X : Cx} {E : En} {ks : List Kd} {k : Kd} {a b : Expr} {ga gb : Sl → R D} {f : D → D → R D} {pos : Pos}
theorem bin_read {rr : R2} (hv : OpV X.K rr k f) (nx : NoX f) (ha : SE X E ks .bor a ga) (hb : SE X E ks .bor b gb) {Hs H : Hp} {r : Sl} {σ : L2.St} {W : WX} {Q : VK} (tk : Takes X W) (S : StRel E Hs H ks r σ)
    (P : Post E.cl k Hs H Q (fun c dd H' => W c dd σ H') (gBin f ga gb r)) : WEx X a σ H fun x H1 => WEx X b σ H1 fun y H2 => rr x y H2 Q := by
  refine ha.run _ _ _ _ _ _ tk S (P.imp fun d1 v1 Hs1 H1 e1 g1 k1 P1 => ?_)
  refine hb.run _ _ _ _ _ _ tk (S.grow g1) (P1.imp fun d2 v2 Hs2 H2 e2 g2 k2 P2 => ?_)
  exact hv _ _ _ _ _ _ _ _ _ g2.sub (k1.rb.grow g2) k2.rb P2 (nx _ _)
theorem se_bin {op : Operator} {rr : R2} (ho : OpR X (binaryOp op) rr) (hv : OpV X.K rr k f) (nx : NoX f) (ha : SE X E ks .bor a ga) (hb : SE X E ks .bor b gb) : SE X E ks k (.BinOp a op b pos) (gBin f ga gb) :=
  ⟨fun Hs H r σ W Q tk S P => we_of (pe_op ho pe_we pe_we) (bin_read hv nx ha hb tk S P)⟩
theorem se_cmp {op : CmpOp} {rr : R2} (ho : OpR X (compareOp op) rr) (hv : OpV X.K rr k f) (nx : NoX f) (ha : SE X E ks .bor a ga) (hb : SE X E ks .bor b gb) (hm : behindInMarks op b = false := by rfl) : SE X E ks k (.Compare a [op] [b] pos) (gBin f ga gb) :=
  ⟨fun Hs H r σ W Q tk S P => we_of (pe_cmpR ho pe_we pe_we hm) (bin_read hv nx ha hb tk S P)⟩
end

theorem oN_ex (n : Nat) : ∃ m : Nat, m = n := ⟨n, rfl⟩
theorem oI_ex (n : Int) : ∃ m : Int, m = n := ⟨n, rfl⟩
def szL : Nat := Classical.choose (oN_ex 16777216)
theorem szL_val : szL = 16777216 := Classical.choose_spec (oN_ex 16777216)
def i63 : Int := Classical.choose (oI_ex (2 ^ 63))
theorem i63_val : i63 = 2 ^ 63 := Classical.choose_spec (oI_ex (2 ^ 63))
def i64 : Int := Classical.choose (oI_ex (2 ^ 64))
theorem i64_val : i64 = 2 ^ 64 := Classical.choose_spec (oI_ex (2 ^ 64))
def n64 : Nat := Classical.choose (oN_ex (2 ^ 64))
theorem n64_val : n64 = 2 ^ 64 := Classical.choose_spec (oN_ex (2 ^ 64))
def n30 : Nat := Classical.choose (oN_ex 1073741824)
theorem n30_val : n30 = 1073741824 := Classical.choose_spec (oN_ex 1073741824)
def iMil : Int := Classical.choose (oI_ex 1000000)
theorem iMil_val : iMil = 1000000 := Classical.choose_spec (oI_ex 1000000)
theorem szL_eq : (sizeLine : Nat) = szL := by rw [sizeLine_eq, szL_val]
theorem le_szL {n : Nat} (h : n ≤ 16777216) : n ≤ szL := by rw [szL_val]; exact h
theorem lt_szL {n : Nat} (h : n < 16777216) : n < szL := by rw [szL_val]; exact h
@[simp] def dAdd : D → D → R D
  | .int i, .int j => .ok (.int (i + j))
  | .str x, .str y => if x.length + y.length ≤ szL then .ok (.str (x ++ y)) else .stuck
  | .lst xs, .lst ys => if xs.length + ys.length ≤ szL then .ok (.lst (xs ++ ys)) else .stuck
  | .tup xs, .tup ys => if xs ≠ [] ∧ xs.length + ys.length ≤ szL then .ok (.tup (xs ++ ys)) else .stuck
  | _, _ => .stuck

theorem RepL.nilInv {cl : Cl} {H : Hp} {ds : List D} {xs : List V} (r : RepL cl H ds xs) : xs = [] ↔ ds = [] := by
  cases r with
  | nil => simp
  | cons _ _ => simp
theorem opv_add {X : Cx} : OpV X.K (fun x y H Q => (rI0 (fun i j => .int (i + j)) x y H Q ∨ (∃ i j, x = .str i ∧ y = .str j ∧ i.length + j.length ≤ sizeLine ∧ Q (.str (i ++ j)) H)) ∨ (rCat x y H Q ∨ rCatT X.K x y H Q)) (.own none) dAdd := by
  intro cl Hs H d1 d2 v1 v2 Q W e b1 b2 P nx
  cases d1 <;> cases d2 <;> first | exact P.elim | skip
  · cases b1.intInv
    cases b2.intInv
    exact .inl (.inl ⟨_, _, rfl, rfl, P.fin e rfl (.int _)⟩)
  · cases b1.strInv
    cases b2.strInv
    dsimp only [dAdd] at P
    split at P
    · rename_i h
      exact .inl (.inr ⟨_, _, rfl, rfl, by rw [szL_eq]; exact h, P.fin e rfl (.str _)⟩)
    · exact P.elim
  · dsimp only [dAdd] at P
    split at P
    · rename_i h
      obtain ⟨a, xs, rfl, h1, r1⟩ := b1.lstInv e
      obtain ⟨b, ys, rfl, h2, r2⟩ := b2.lstInv e
      exact .inr (.inl ⟨a, b, xs, ys, rfl, rfl, h1, h2, by rw [szL_eq, r1.length, r2.length]; exact h, fun p hp => P.finL e hp (r1.app r2)⟩)
    · exact P.elim
  · dsimp only [dAdd] at P
    split at P
    · rename_i h
      obtain ⟨n1, h⟩ := h
      have b1' := b1
      obtain ⟨a, xs, rfl, h1, r1⟩ := b1.tupInv e
      obtain ⟨b, ys, rfl, h2, r2⟩ := b2.tupInv e
      refine .inr (.inr ⟨a, b, xs, ys, rfl, rfl, SqT.of h1, SqT.of h2, fun z => n1 (r1.nilInv.mp z), by rw [szL_eq, r1.length, r2.length]; exact h, fun z => ?_, fun _ p hp => ?_⟩)
      · rw [r2.nilInv.mp z, List.append_nil] at P
        cases b1' with
        | val rr => exact P.fin e rfl rr
      · exact P _ _ _ (Grow.new e hp) (RK.ownPlain rfl (.tup upd_same (RepL.same (Same.updNew (e.free hp)) _ _ (r1.app r2))))
    · exact P.elim
@[simp] def dSub : D → D → R D
  | .int i, .int j => .ok (.int (i - j))
  | _, _ => .stuck
/-- a product that the model reckons -/
def w600 : Nat := Classical.choose (oN_ex (2 ^ 2000))
theorem w600_val : w600 = 2 ^ 2000 := Classical.choose_spec (oN_ex (2 ^ 2000))
def wideOk (i j : Int) : Bool := decide (i.natAbs < w600) && decide (j.natAbs < w600)
def mulOk (i j : Int) : Bool := ((decide (-i64 < i) && decide (i < i64)) || (decide (-i64 < j) && decide (j < i64))) || wideOk i j
@[simp] def dMul : D → D → R D
  | .int i, .int j => if mulOk i j then .ok (.int (i * j)) else .stuck
  | .lst xs, .int k => if -i63 ≤ k ∧ k < i63 ∧ xs.length * k.toNat ≤ szL then .ok (.lst (List.replicate k.toNat xs).flatten) else .stuck
  | _, _ => .stuck
@[simp] def dFdiv : D → D → R D
  | .int i, .int j => if (j ≠ 0 ∧ j.natAbs < n30) ∨ (0 < j ∧ j.natAbs < w600) then .ok (.int (i.fdiv j)) else .stuck
  | _, _ => .stuck
@[simp] def dMod : D → D → R D
  | .int i, .int j => if j ≠ 0 then .ok (.int (i.fmod j)) else .stuck
  | _, _ => .stuck
def dPow : D → D → R D
  | .int i, .int j => if 0 ≤ j ∧ j ≤ iMil ∧ i.natAbs < n64 then .ok (.int (i ^ j.toNat)) else .stuck
  | _, _ => .stuck
theorem opv_int2 {K : PySem.W.Frag} {f : D → D → R D} {C : Int → Int → Prop} {g : Int → Int → Int} (h : ∀ d1 d2, f d1 d2 ≠ .stuck → ∃ i j, d1 = .int i ∧ d2 = .int j ∧ C i j ∧ f d1 d2 = .ok (.int (g i j))) : OpV K (rI C fun i j => .int (g i j)) .val f := by
  intro cl Hs H d1 d2 v1 v2 Q W e b1 b2 P nx
  have ns : f d1 d2 ≠ .stuck := fun z => by rw [z] at P; exact P
  obtain ⟨i, j, rfl, rfl, c, q⟩ := h _ _ ns
  cases b1.intInv
  cases b2.intInv
  rw [q] at P
  exact ⟨i, j, rfl, rfl, c, P.finV e (.int _)⟩
theorem opv_int0 {K : PySem.W.Frag} {f : D → D → R D} {g : Int → Int → V} {gd : Int → Int → D} (h : ∀ d1 d2, f d1 d2 ≠ .stuck → ∃ i j, d1 = .int i ∧ d2 = .int j ∧ f d1 d2 = .ok (gd i j)) (hr : ∀ cl H i j, Rep cl H (gd i j) (g i j)) : OpV K (rI0 g) .val f := by
  intro cl Hs H d1 d2 v1 v2 Q W e b1 b2 P nx
  have ns : f d1 d2 ≠ .stuck := fun z => by rw [z] at P; exact P
  obtain ⟨i, j, rfl, rfl, q⟩ := h _ _ ns
  cases b1.intInv
  cases b2.intInv
  rw [q] at P
  exact ⟨i, j, rfl, rfl, P.finV e (hr _ _ _ _)⟩
theorem opv_sub {X : Cx} : OpV X.K (rI0 fun i j => .int (i - j)) .val dSub := opv_int0 (gd := fun i j => .int (i - j)) (fun d1 d2 ns => by
  cases d1 <;> cases d2 <;> first | exact (ns rfl).elim | exact ⟨_, _, rfl, rfl, rfl⟩) fun _ _ _ _ => .int _
theorem opv_fdiv {X : Cx} : OpV X.K (fun x y H Q => rI CDivN (fun i j => .int (i.fdiv j)) x y H Q ∨ rI CDivW (fun i j => .int (i / j)) x y H Q) .val dFdiv := by
  intro cl Hs H d1 d2 v1 v2 Q W e b1 b2 P nx
  cases d1 <;> cases d2 <;> first | exact P.elim | skip
  cases b1.intInv
  cases b2.intInv
  rename_i i j
  dsimp only [dFdiv] at P
  split at P
  · rename_i h
    by_cases c : j ≠ 0 ∧ j.natAbs < n30
    · exact .inl ⟨_, _, rfl, rfl, by have z := c; rw [n30_val] at z; exact z, P.finV e (.int _)⟩
    · have h2 := h.resolve_left c
      rw [Int.fdiv_eq_ediv_of_nonneg i (by omega)] at P
      exact .inr ⟨_, _, rfl, rfl, wide_div (b := 2000) h2.1 (by have z := h2.2; rw [w600_val] at z; exact z) (by decide) (by decide), P.finV e (.int _)⟩
  · exact P.elim
theorem opv_mod {X : Cx} : OpV X.K (rI (fun _ j => j ≠ 0) fun i j => .int (i.fmod j)) .val dMod := opv_int2 fun d1 d2 ns => by
  cases d1 <;> cases d2 <;> first | exact (ns rfl).elim | skip
  dsimp only [dMod] at ns ⊢
  split at ns
  · rename_i h
    exact ⟨_, _, rfl, rfl, h, by rw [if_pos h]⟩
  · exact (ns rfl).elim
theorem opv_pow {X : Cx} : OpV X.K (rI CPow fun i j => .int (i ^ j.toNat)) .val dPow := opv_int2 fun d1 d2 ns => by
  cases d1 <;> cases d2 <;> first | exact (ns rfl).elim | skip
  dsimp only [dPow] at ns ⊢
  split at ns
  · rename_i h
    exact ⟨_, _, rfl, rfl, by have z := h; rw [iMil_val, n64_val] at z; exact z, by rw [if_pos h]⟩
  · exact (ns rfl).elim
theorem mulOk_iff {i j : Int} (h : mulOk i j = true) : CMul i j ∨ CMulW i j := by
  unfold mulOk wideOk at h
  simp only [Bool.or_eq_true, Bool.and_eq_true, decide_eq_true_eq, i64_val, w600_val] at h
  rcases h with h | h
  · exact .inl h
  · exact .inr (wide_mul (a := 2000) (b := 2000) h.1 h.2 (by decide) (by decide) (by decide))
theorem RepL.rep {cl : Cl} {H : Hp} {ds : List D} {vs : List V} (h : RepL cl H ds vs) : ∀ k : Nat, RepL cl H (List.replicate k ds).flatten (List.replicate k vs).flatten
  | 0 => .nil
  | k + 1 => by
    rw [List.replicate_succ, List.replicate_succ, List.flatten_cons, List.flatten_cons]
    exact h.app (RepL.rep h k)
theorem opv_mul {X : Cx} : OpV X.K (fun x y H Q => (rI CMul (fun i j => .int (i * j)) x y H Q ∨ rI CMulW (fun i j => .int (i * j)) x y H Q) ∨ rRep x y H Q) (.own none) dMul := by
  intro cl Hs H d1 d2 v1 v2 Q W e b1 b2 P nx
  cases d1 <;> cases d2 <;> first | exact P.elim | skip
  · cases b1.intInv
    cases b2.intInv
    dsimp only [dMul] at P
    split at P
    · rename_i h
      rcases mulOk_iff h with h | h
      · exact .inl (.inl ⟨_, _, rfl, rfl, h, P.fin e rfl (.int _)⟩)
      · exact .inl (.inr ⟨_, _, rfl, rfl, h, P.fin e rfl (.int _)⟩)
    · exact P.elim
  · cases b2.intInv
    dsimp only [dMul] at P
    split at P
    · rename_i h
      obtain ⟨a, xs, rfl, h1, r1⟩ := b1.lstInv e
      refine .inr ⟨a, _, xs, rfl, rfl, h1, by have := h.1; rw [i63_val] at this; exact this, by have := h.2.1; rw [i63_val] at this; exact this, by rw [szL_eq, r1.length]; exact h.2.2, fun p hp => P.finL e hp (r1.rep _)⟩
    · exact P.elim
theorem nox_add : NoX dAdd := fun a b x h => by
  cases a <;> cases b <;> dsimp only [dAdd] at h <;> first | (split at h <;> cases h) | cases h
theorem nox_sub : NoX dSub := fun a b x h => by cases a <;> cases b <;> exact (nomatch h)
theorem nox_mul : NoX dMul := fun a b x h => by
  cases a <;> cases b <;> dsimp only [dMul] at h <;> first | (split at h <;> cases h) | cases h
theorem nox_fdiv : NoX dFdiv := fun a b x h => by
  cases a <;> cases b <;> dsimp only [dFdiv] at h <;> first | (split at h <;> cases h) | cases h
theorem nox_mod : NoX dMod := fun a b x h => by
  cases a <;> cases b <;> dsimp only [dMod] at h <;> first | (split at h <;> cases h) | cases h
theorem nox_pow : NoX dPow := fun a b x h => by
  cases a <;> cases b <;> dsimp only [dPow] at h <;> first | (split at h <;> cases h) | cases h
section
variable {X : Cx} {E : En} {ks : List Kd} {a b : Expr} {ga gb : Sl → R D} {pos : Pos}
theorem se_add (ha : SE X E ks .bor a ga) (hb : SE X E ks .bor b gb) : SE X E ks (.own none) (.BinOp a .Add b pos) (gBin dAdd ga gb) :=
  se_bin ((op_add.or op_add_str).or (op_cat.or op_catT)) opv_add nox_add ha hb
theorem se_sub (ha : SE X E ks .bor a ga) (hb : SE X E ks .bor b gb) : SE X E ks .val (.BinOp a .Sub b pos) (gBin dSub ga gb) := se_bin op_sub opv_sub nox_sub ha hb
theorem se_mul (ha : SE X E ks .bor a ga) (hb : SE X E ks .bor b gb) : SE X E ks (.own none) (.BinOp a .Mult b pos) (gBin dMul ga gb) := se_bin ((op_mul.or op_mulW).or op_rep) opv_mul nox_mul ha hb
theorem se_fdiv (ha : SE X E ks .bor a ga) (hb : SE X E ks .bor b gb) : SE X E ks .val (.BinOp a .FloorDiv b pos) (gBin dFdiv ga gb) := se_bin (op_fdivN.or op_fdivW) opv_fdiv nox_fdiv ha hb
theorem se_mod (ha : SE X E ks .bor a ga) (hb : SE X E ks .bor b gb) : SE X E ks .val (.BinOp a .Mod b pos) (gBin dMod ga gb) := se_bin op_modN opv_mod nox_mod ha hb
theorem se_pow (ha : SE X E ks .bor a ga) (hb : SE X E ks .bor b gb) : SE X E ks .val (.BinOp a .Pow b pos) (gBin dPow ga gb) := se_bin op_pow opv_pow nox_pow ha hb
@[simp] def gUn (f : D → R D) (ga : Sl → R D) : Sl → R D := fun r => do
  let a ← ga r
  f a
end

mutual
def toPy : D → PyData
  | .non => .none
  | .bl b => .bool b
  | .int i => .int i
  | .str x => .str x
  | .lst xs => .list (toPys xs)
  | .tup xs => .tuple (toPys xs)
  | .dct _ => .dict []
  | .obj _ _ => .dict []
  | .scr _ => .dict []
def toPys : List D → List PyData
  | [] => []
  | d :: ds => toPy d :: toPys ds
end
section
variable {cl : Cl} {K : PySem.W.Frag} {H : Hp}
mutual
theorem Rep.dp : ∀ (d : D) (v : V), (toPy d).canLay0 = true → Rep cl H d v → Dp K H v (toPy d)
  | .non, _, _, h => by cases h; exact .non
  | .bl b, _, _, h => by cases h; exact .bl b
  | .int i, _, _, h => by cases h; exact .int i
  | .str x, _, _, h => by cases h; exact .str x
  | .lst ds, _, c, h => by
    cases h with
    | lst h1 h2 => exact .lst (SqL.of h1) (RepL.dp ds _ c h2)
  | .tup ds, _, c, h => by
    cases h with
    | tup h1 h2 => exact .tup (SqT.of h1) (RepL.dp ds _ c h2)
  | .dct ds, _, c, h => by cases c
  | .obj C ds, _, c, h => by cases c
  | .scr ns, _, c, h => by cases c
theorem RepL.dp : ∀ (ds : List D) (vs : List V), PyData.canLayAll0 (toPys ds) = true → RepL cl H ds vs → DpAll K H vs (toPys ds)
  | [], _, _, h => by cases h; exact .nil
  | d :: ds, _, c, h => by
    have c' : (toPy d).canLay0 = true ∧ PyData.canLayAll0 (toPys ds) = true := by
      have q : ((toPy d).canLay0 && PyData.canLayAll0 (toPys ds)) = true := c
      simpa using q
    cases h with
    | cons h1 h2 => exact .cons (Rep.dp d _ c'.1 h1) (RepL.dp ds _ c'.2 h2)
end
theorem RB.dp {Hs : Hp} {d : D} {v : V} (e : Same Hs H) (c : (toPy d).canLay0 = true) (h : RB cl Hs H d v) : Dp K H v (toPy d) := by
  cases h with
  | val r => exact Rep.dp _ _ c (Rep.same e _ _ r)
  | lst h1 h2 => exact .lst (SqL.of h1) (RepL.dp _ _ c (RepL.same e _ _ h2))
  | dct _ _ => cases c
  | obj _ _ _ => cases c
end
def dEqB (a b : D) : Bool := PyData.eqv (toPy a) (toPy b)
def shp (a : D) : Bool := SeqAt.shaped (toPy a)
def dEq : D → D → R D := fun a b => if shp a && shp b then .ok (.bl (dEqB a b)) else .stuck
def dNe : D → D → R D := fun a b => if shp a && shp b then .ok (.bl (!dEqB a b)) else .stuck
theorem nox_eq : NoX dEq := fun a b x h => by unfold dEq at h; split at h <;> cases h
theorem nox_ne : NoX dNe := fun a b x h => by unfold dNe at h; split at h <;> cases h
theorem opv_eq {X : Cx} : OpV X.K (rEqD X.K) .val dEq := by
  intro cl Hs H d1 d2 v1 v2 Q W e b1 b2 P nx
  unfold dEq at P
  split at P
  · rename_i h
    have h' : shp d1 = true ∧ shp d2 = true := by simpa using h
    exact ⟨toPy d1, toPy d2, b1.dp e (SeqAt.canLay_of_shaped h'.1), b2.dp e (SeqAt.canLay_of_shaped h'.2), h'.1, h'.2, P.finV e (.bl _)⟩
  · exact P.elim
theorem opv_ne {X : Cx} : OpV X.K (rNeD X.K) .val dNe := by
  intro cl Hs H d1 d2 v1 v2 Q W e b1 b2 P nx
  unfold dNe at P
  split at P
  · rename_i h
    have h' : shp d1 = true ∧ shp d2 = true := by simpa using h
    exact ⟨toPy d1, toPy d2, b1.dp e (SeqAt.canLay_of_shaped h'.1), b2.dp e (SeqAt.canLay_of_shaped h'.2), h'.1, h'.2, P.finV e (.bl _)⟩
  · exact P.elim
@[simp] def dLt : D → D → R D
  | .int i, .int j => .ok (.bl (decide (i < j)))
  | _, _ => .stuck
@[simp] def dLe : D → D → R D
  | .int i, .int j => .ok (.bl (decide (i ≤ j)))
  | _, _ => .stuck
@[simp] def dGt : D → D → R D
  | .int i, .int j => .ok (.bl (decide (j < i)))
  | _, _ => .stuck
theorem nox_lt : NoX dLt := fun a b x h => by cases a <;> cases b <;> exact (nomatch h)
theorem nox_le : NoX dLe := fun a b x h => by cases a <;> cases b <;> exact (nomatch h)
theorem nox_gt : NoX dGt := fun a b x h => by cases a <;> cases b <;> exact (nomatch h)
theorem opv_lt {X : Cx} : OpV X.K (rI0 fun i j => .bl (decide (i < j))) .val dLt := opv_int0 (gd := fun i j => .bl (decide (i < j))) (fun d1 d2 ns => by
  cases d1 <;> cases d2 <;> first | exact (ns rfl).elim | exact ⟨_, _, rfl, rfl, rfl⟩) fun _ _ _ _ => .bl _
theorem opv_le {X : Cx} : OpV X.K (rI0 fun i j => .bl (decide (i ≤ j))) .val dLe := opv_int0 (gd := fun i j => .bl (decide (i ≤ j))) (fun d1 d2 ns => by
  cases d1 <;> cases d2 <;> first | exact (ns rfl).elim | exact ⟨_, _, rfl, rfl, rfl⟩) fun _ _ _ _ => .bl _
theorem opv_gt {X : Cx} : OpV X.K (rI0 fun i j => .bl (decide (j < i))) .val dGt := opv_int0 (gd := fun i j => .bl (decide (j < i))) (fun d1 d2 ns => by
  cases d1 <;> cases d2 <;> first | exact (ns rfl).elim | exact ⟨_, _, rfl, rfl, rfl⟩) fun _ _ _ _ => .bl _
section
variable {X : Cx} {E : En} {ks : List Kd} {a b : Expr} {ga gb : Sl → R D} {pos : Pos}
end
end VL
end

noncomputable section
namespace VL
open PySem PySem.Spec PyProof.Rows L2
variable {md : Md}

def PostT (cl : Cl) (Hs H : Hp) (Q : Bool → Hp → Prop) (W : WX0) : R Bool → Prop
  | .stuck => False
  | .exc x => ∀ c dd Hs' H', Grow Hs H Hs' H' → XRep cl Hs' H' x c dd → W c dd H'
  | .ok b => ∀ Hs' H', Grow Hs H Hs' H' → Q b H'
theorem PostT.grow {cl : Cl} {Hs H Hs' H' : Hp} {Q : Bool → Hp → Prop} {W : WX0} {r : R Bool} (P : PostT cl Hs H Q W r) (g : Grow Hs H Hs' H') : PostT cl Hs' H' Q W r := by
  cases r with
  | stuck => exact P
  | exc x => exact fun c dd Hs2 H2 g2 x2 => P c dd Hs2 H2 (g.trans g2) x2
  | ok d => exact fun Hs2 H2 g2 => P Hs2 H2 (g.trans g2)
structure ST [md : Md] (X : Cx) (E : En) (ks : List Kd) (e : Expr) (g : Sl → R Bool) : Prop where
  run : ∀ (Hs H : Hp) (r : Sl) (σ : L2.St) (W : WX) (Q : Bool → Hp → Prop), Takes X W → StRel E Hs H ks r σ → PostT E.cl Hs H Q (fun c dd H' => W c dd σ H') (g r) → WTx X e σ H Q
def WWx (X : Cx) (e : Expr) : TT := fun σ H Q => ∀ (whole : Sem Value) (pins : List (Addr × Obj)) (s : Shared), Inv X pins σ H s → wpAny (model X.prog X.w) X.A (isTrue e X.env whole) (TP X pins σ Q) X.xe s
theorem pw_ww {X : Cx} {e : Expr} : PW X e (WWx X e) := ⟨fun whole pins s _ _ _ I h => h whole pins s I⟩
theorem ww_of {X : Cx} {e : Expr} {t : TT} {σ : L2.St} {H : Hp} {Q : Bool → Hp → Prop} (p : PW X e t) (h : t σ H Q) : WWx X e σ H Q := fun whole pins s I => p.run whole pins s σ H Q I h
structure SW [md : Md] (X : Cx) (E : En) (ks : List Kd) (e : Expr) (g : Sl → R Bool) : Prop where
  run : ∀ (Hs H : Hp) (r : Sl) (σ : L2.St) (W : WX) (Q : Bool → Hp → Prop), Takes X W → StRel E Hs H ks r σ → PostT E.cl Hs H Q (fun c dd H' => W c dd σ H') (g r) → WWx X e σ H Q
/-- a bool -/
@[simp] def asB : D → R Bool
  | .bl b => .ok b
  | _ => .stuck
@[simp] def gTest (g : Sl → R D) : Sl → R Bool := fun r => do
  let d ← g r
  asB d
section
variable {X : Cx} {E : En} {ks : List Kd} {a b c e : Expr} {ga gb g : Sl → R D} {ta tb tc : Sl → R Bool} {rest : List Expr} {pos : Pos}
theorem Post.ofT {cl : Cl} {k : Kd} {Hs H : Hp} {Q : Bool → Hp → Prop} {W : WX0} {r : R D} {f : D → R Bool} (P : PostT cl Hs H Q W (r >>= f)) {Q1 : VK}
    (h : ∀ d v Hs' H', r = .ok d → Grow Hs H Hs' H' → RK cl k H Hs' H' d v → PostT cl Hs' H' Q W (f d) → Q1 v H') : Post cl k Hs H Q1 W r := by
  cases r with
  | stuck => exact P
  | exc x => exact P
  | ok d => exact fun v Hs' H' g rk => h d v Hs' H' rfl g rk (PostT.grow (r := f d) P g)
theorem PostT.imp {cl : Cl} {Hs H : Hp} {Q Q1 : Bool → Hp → Prop} {W : WX0} {r : R Bool} {f : Bool → R Bool} (P : PostT cl Hs H Q W (r >>= f))
    (h : ∀ b Hs' H', r = .ok b → Grow Hs H Hs' H' → PostT cl Hs' H' Q W (f b) → Q1 b H') : PostT cl Hs H Q1 W r := by
  cases r with
  | stuck => exact P
  | exc x => exact P
  | ok d => exact fun Hs' H' g => h d Hs' H' rfl g (PostT.grow (r := f d) P g)
theorem PostT.to {cl : Cl} {k : Kd} {Hs H : Hp} {Q1 : Bool → Hp → Prop} {Q : VK} {W : WX0} {r : R Bool} {f : Bool → R D} (P : Post cl k Hs H Q W (r >>= f))
    (h : ∀ b Hs' H', r = .ok b → Grow Hs H Hs' H' → Post cl k Hs' H' Q W (f b) → Q1 b H') : PostT cl Hs H Q1 W r := by
  cases r with
  | stuck => exact P
  | exc x => exact P
  | ok d => exact fun Hs' H' g => h d Hs' H' rfl g (Post.grow (r := f d) P g)
/-- an expression that gives a bool, as a test -/
theorem st_val (h : SE X E ks .bor e g) (he : ∀ whole, isTrue e X.env whole = (do let v ← whole; standAt e.pos; holding [v] (truthy v)) := by intro _; rfl) : ST X E ks e (gTest g) := by
  refine ⟨fun Hs H r σ W Q tk S P => ?_⟩
  refine wt_of (pt_val pe_we he) ?_
  refine h.run _ _ _ _ _ _ tk S (Post.ofT P fun d v Hs' H' e1 g1 k1 P1 => ?_)
  cases d <;> first | exact P1.elim | skip
  cases k1.rb.blInv
  exact ⟨_, rfl, P1 Hs' H' (Grow.refl g1.sub)⟩
/-- a comparison as a test -/
theorem st_cmp {op : CmpOp} {rr : R2} {f : D → D → R D} (ho : OpR X (compareOp op) rr) (hv : OpV X.K rr .val f) (nx : NoX f) (ha : SE X E ks .bor a ga) (hb : SE X E ks .bor b gb) (hm : behindInMarks op b = false := by rfl) : ST X E ks (.Compare a [op] [b] pos) (gTest (gBin f ga gb)) := by
  refine ⟨fun Hs H r σ W Q tk S P => ?_⟩
  refine wt_of (pt_cmpR ho pe_we pe_we hm) ?_
  refine bin_read hv nx ha hb tk S (Post.ofT P fun d v Hs' H' e1 g1 k1 P1 => ?_)
  cases d <;> first | exact P1.elim | skip
  have rp := k1.rep
  cases rp
  exact ⟨_, rfl, P1 Hs' H' (Grow.refl g1.sub)⟩
theorem st_of (h : SW X E ks e ta) : ST X E ks e ta := ⟨fun Hs H r σ W Q tk S P => wt_of pw_ww.pt (h.run _ _ _ _ _ _ tk S P)⟩
@[simp] def gAnd (ta tb : Sl → R Bool) : Sl → R Bool := fun r => do
  let b ← ta r
  if b then tb r else .ok false
@[simp] def gOr (ta tb : Sl → R Bool) : Sl → R Bool := fun r => do
  let b ← ta r
  if b then .ok true else tb r
@[simp] def gNot (ta : Sl → R Bool) : Sl → R Bool := fun r => do
  let b ← ta r
  .ok (!b)
theorem sw_and1 (ha : ST X E ks a ta) : SW X E ks (.BoolOp .And [a] pos) ta := ⟨fun Hs H r σ W Q tk S P => ww_of (pw_and1 pt_wt) (ha.run _ _ _ _ _ _ tk S P)⟩
theorem sw_or1 (ha : ST X E ks a ta) : SW X E ks (.BoolOp .Or [a] pos) ta := ⟨fun Hs H r σ W Q tk S P => ww_of (pw_or1 pt_wt) (ha.run _ _ _ _ _ _ tk S P)⟩
theorem sw_and (ha : ST X E ks a ta) (hb : SW X E ks (.BoolOp .And (b :: rest) pos) tb) : SW X E ks (.BoolOp .And (a :: b :: rest) pos) (gAnd ta tb) := by
  refine ⟨fun Hs H r σ W Q tk S P => ?_⟩
  refine ww_of (pw_and pt_wt pw_ww) ?_
  refine ha.run _ _ _ _ _ _ tk S (PostT.imp P fun x Hs' H' e1 g1 P1 => ?_)
  cases x with
  | true => exact hb.run _ _ _ _ _ _ tk (S.grow g1) P1
  | false => exact P1 Hs' H' (Grow.refl g1.sub)
theorem sw_or (ha : ST X E ks a ta) (hb : SW X E ks (.BoolOp .Or (b :: rest) pos) tb) : SW X E ks (.BoolOp .Or (a :: b :: rest) pos) (gOr ta tb) := by
  refine ⟨fun Hs H r σ W Q tk S P => ?_⟩
  refine ww_of (pw_or pt_wt pw_ww) ?_
  refine ha.run _ _ _ _ _ _ tk S (PostT.imp P fun x Hs' H' e1 g1 P1 => ?_)
  cases x with
  | false => exact hb.run _ _ _ _ _ _ tk (S.grow g1) P1
  | true => exact P1 Hs' H' (Grow.refl g1.sub)
theorem st_not (ha : ST X E ks a ta) : ST X E ks (.UnaryOp .Not a pos) (gNot ta) := by
  refine ⟨fun Hs H r σ W Q tk S P => ?_⟩
  refine wt_of (pt_not pt_wt) ?_
  exact ha.run _ _ _ _ _ _ tk S (PostT.imp P fun x Hs' H' e1 g1 P1 => P1 Hs' H' (Grow.refl g1.sub))
@[simp] def vAnd (ga gb : Sl → R D) : Sl → R D := fun r => do
  let d ← ga r
  let b ← asB d
  if b then gb r else .ok (.bl false)
theorem se_one {op : PySem.BoolOp} (ha : SE X E ks .val a ga) : SE X E ks .val (.BoolOp op [a] pos) ga := ⟨fun Hs H r σ W Q tk S P => we_of (pe_one pe_we) (ha.run _ _ _ _ _ _ tk S P)⟩
theorem se_and (ha : SE X E ks .val a ga) (hb : SE X E ks .val (.BoolOp .And (b :: rest) pos) gb) : SE X E ks .val (.BoolOp .And (a :: b :: rest) pos) (vAnd ga gb) := by
  refine ⟨fun Hs H r σ W Q tk S P => ?_⟩
  refine we_of (pe_and pe_we pe_we) ?_
  refine ha.run _ _ _ _ _ _ tk S (Post.imp (F := fun d => asB d >>= fun b => if b then gb r else .ok (.bl false)) P fun d v Hs' H' e1 g1 k1 P1 => ?_)
  cases d <;> first | exact P1.elim | skip
  have rp := k1.rep
  cases rp
  rename_i q
  refine ⟨q, rfl, ?_⟩
  cases q with
  | true => exact iteT (hb.run _ _ _ _ _ _ tk (S.grow g1) P1)
  | false => exact iteF (Post.finV P1 g1.sub (.bl false))
@[simp] def gIf (tc : Sl → R Bool) (ga gb : Sl → R D) : Sl → R D := fun r => do
  let b ← tc r
  if b then ga r else gb r
theorem se_if {k : Kd} (hc : ST X E ks c tc) (ha : SE X E ks k a ga) (hb : SE X E ks k b gb) : SE X E ks k (.IfExp c a b pos) (gIf tc ga gb) := by
  refine ⟨fun Hs H r σ W Q tk S P => ?_⟩
  refine we_of (pe_ifExp pt_wt pe_we pe_we) ?_
  refine hc.run _ _ _ _ _ _ tk S (PostT.to P fun x Hs' H' e1 g1 P1 => ?_)
  have fin : ∀ {k : Kd}, Post E.cl k Hs' H' Q (fun c dd H' => W c dd σ H') (if x then ga r else gb r) → Post E.cl k Hs' H' Q (fun c dd H' => W c dd σ H') (if x then ga r else gb r) := fun z => z
  cases x with
  | true => exact iteT (ha.run _ _ _ _ _ _ tk (S.grow g1) P1)
  | false => exact iteF (hb.run _ _ _ _ _ _ tk (S.grow g1) P1)
end

@[simp] def dIsN : D → R D
  | .non => .ok (.bl true)
  | _ => .ok (.bl false)
section
variable {X : Cx} {E : En} {ks : List Kd} {a : Expr} {ga : Sl → R D} {pos pos' : Pos} {j : Nat}
theorem RB.isN {cl : Cl} {Hs H : Hp} {d : D} {v : V} (h : RB cl Hs H d v) : decide (v = V.non) = (match d with | .non => true | _ => false) := by
  cases h with
  | val r => cases r <;> rfl
  | lst _ _ => rfl
  | dct _ _ => rfl
  | obj _ _ _ => rfl
theorem se_isN (ha : SE X E ks .bor a ga) : SE X E ks .val (.Compare a [.Is] [.Constant .none j pos'] pos) (gUn dIsN ga) := by
  refine ⟨fun Hs H r σ W Q tk S P => ?_⟩
  refine we_of (pe_cmp (pc_isN pe_we) rfl) ?_
  refine ha.run _ _ _ _ _ _ tk S (P.imp fun d v Hs1 H1 e1 g1 k1 P1 => ?_)
  show Q (V.bl (decide (v = .non))) H1
  rw [k1.rb.isN]
  cases d <;> exact P1.finV g1.sub (.bl _)
theorem st_isN (ha : SE X E ks .bor a ga) : ST X E ks (.Compare a [.Is] [.Constant .none j pos'] pos) (gTest (gUn dIsN ga)) := by
  refine ⟨fun Hs H r σ W Q tk S P => ?_⟩
  refine wt_of (pt_cmp (pc_isN pe_we) rfl) ?_
  have P' : PostT E.cl Hs H Q (fun c dd H' => W c dd σ H') (ga r >>= fun d => dIsN d >>= asB) := by
    unfold gTest gUn at P
    cases q : ga r <;> rw [q] at P <;> exact P
  refine ha.run _ _ _ _ _ _ tk S (Post.ofT P' fun d v Hs1 H1 e1 g1 k1 P1 => ?_)
  refine ⟨_, rfl, ?_⟩
  rw [k1.rb.isN]
  cases d <;> exact P1 Hs1 H1 (Grow.refl g1.sub)
end

theorem atI_rep {cl : Cl} {H : Hp} {ds : List D} {vs : List V} {i : Int} {d : D} (r : RepL cl H ds vs) (h : atI ds i = some d) : ∃ v, atI vs i = some v ∧ Rep cl H d v := by
  unfold atI at h ⊢
  rw [r.length]
  cases q : ixN ds.length i with
  | none => rw [q] at h; cases h
  | some j =>
    rw [q] at h
    have h' : ds[j]? = some d := h
    obtain ⟨v, e, rp⟩ := r.get h'
    exact ⟨v, e, rp⟩
@[simp] def dIdx : D → D → R D
  | .lst ds, .int i => match atI ds i with
    | some d => .ok d
    | none => .stuck
  | .tup ds, .int i => match atI ds i with
    | some d => .ok d
    | none => .stuck
  | .str z, .int i => if z.length ≤ szL then (match atI z.cps.toList i with
    | some c => .ok (.str ⟨#[c]⟩)
    | none => .stuck) else .stuck
  | _, _ => .stuck
theorem nox_idx : NoX dIdx := fun a b x h => by
  cases a <;> cases b <;> dsimp only [dIdx] at h <;> first | (split at h <;> first | cases h | (split at h <;> cases h)) | cases h
theorem opv_idx {X : Cx} : OpV X.K (rIx X.K) .val dIdx := by
  intro cl Hs H d1 d2 v1 v2 Q W e b1 b2 P nx
  cases d1 <;> cases d2 <;> first | exact P.elim | skip
  · cases b1.strInv
    cases b2.intInv
    dsimp only [dIdx] at P
    split at P
    · rename_i h
      split at P
      · rename_i c q
        exact .inr (.inr ⟨_, _, c, rfl, rfl, by rw [szL_eq]; exact h, q, P.finV e (.str _)⟩)
      · exact P.elim
    · exact P.elim
  · cases b2.intInv
    dsimp only [dIdx] at P
    split at P
    · rename_i d q
      obtain ⟨l, xs, rfl, h1, r1⟩ := b1.lstInv e
      obtain ⟨v, e2, rp⟩ := atI_rep r1 q
      exact .inl ⟨l, xs, _, v, rfl, rfl, SqL.of h1, e2, P.finV e rp⟩
    · exact P.elim
  · cases b2.intInv
    dsimp only [dIdx] at P
    split at P
    · rename_i d q
      obtain ⟨l, xs, rfl, h1, r1⟩ := b1.tupInv e
      obtain ⟨v, e2, rp⟩ := atI_rep r1 q
      exact .inr (.inl ⟨l, xs, _, v, rfl, rfl, SqT.of h1, e2, P.finV e rp⟩)
    · exact P.elim
theorem se_ix {X : Cx} {E : En} {ks : List Kd} {a b : Expr} {ga gb : Sl → R D} {pos : Pos} (ha : SE X E ks .bor a ga) (hb : SE X E ks .bor b gb) (hs : PlainIx b := by exact fun _ _ => rfl) : SE X E ks .val (.Subscript a b pos) (gBin dIdx ga gb) :=
  ⟨fun Hs H r σ W Q tk S P => we_of (pe_ix ix_seq pe_we pe_we hs) (bin_read opv_idx nox_idx ha hb tk S P)⟩

def cutL {α : Type} (xs : List α) (lo hi : Option Int) : List α := (xs.drop (HT.sIx xs.length 0 lo)).take (HT.sIx xs.length xs.length hi - HT.sIx xs.length 0 lo)
theorem cut_rep {cl : Cl} {H : Hp} {ds : List D} {vs : List V} {lo hi : Option Int} (r : RepL cl H ds vs) : RepL cl H (cutL ds lo hi) (cutV vs lo hi) := by
  unfold cutL cutV
  rw [r.length]
  exact (r.drop _).take _
/-- an end of a slice -/
def PostO (cl : Cl) (Hs H : Hp) (Q : Option Int → Hp → Prop) (W : WX0) : R (Option Int) → Prop
  | .stuck => False
  | .exc x => ∀ c dd Hs' H', Grow Hs H Hs' H' → XRep cl Hs' H' x c dd → W c dd H'
  | .ok b => ∀ Hs' H', Grow Hs H Hs' H' → Q b H'
theorem PostO.grow {cl : Cl} {Hs H Hs' H' : Hp} {Q : Option Int → Hp → Prop} {W : WX0} {r : R (Option Int)} (P : PostO cl Hs H Q W r) (g : Grow Hs H Hs' H') : PostO cl Hs' H' Q W r := by
  cases r with
  | stuck => exact P
  | exc x => exact fun c dd Hs2 H2 g2 x2 => P c dd Hs2 H2 (g.trans g2) x2
  | ok d => exact fun Hs2 H2 g2 => P Hs2 H2 (g.trans g2)
def WOx (X : Cx) (e : Option Expr) : TO := fun σ H Q => ∃ t, PO X e t ∧ t σ H Q
theorem po_wo {X : Cx} {e : Option Expr} : PO X e (WOx X e) := ⟨fun pins s σ H Q I ⟨t, p, h⟩ => p.run pins s σ H Q I h⟩
structure SO [md : Md] (X : Cx) (E : En) (ks : List Kd) (e : Option Expr) (g : Sl → R (Option Int)) : Prop where
  run : ∀ (Hs H : Hp) (r : Sl) (σ : L2.St) (W : WX) (Q : Option Int → Hp → Prop), Takes X W → StRel E Hs H ks r σ → PostO E.cl Hs H Q (fun c dd H' => W c dd σ H') (g r) → WOx X e σ H Q
@[simp] def gNoPart : Sl → R (Option Int) := fun _ => .ok none
@[simp] def dPart : D → R (Option Int)
  | .int i => .ok (some i)
  | _ => .stuck
@[simp] def gPart (g : Sl → R D) : Sl → R (Option Int) := fun r => do
  let d ← g r
  dPart d
section
variable {X : Cx} {E : En} {ks : List Kd} {a e : Expr} {ga g : Sl → R D} {pos p2 : Pos} {lo hi : Option Expr} {gl gh : Sl → R (Option Int)}
theorem so_none : SO X E ks none gNoPart := ⟨fun Hs H r σ W Q tk S P => ⟨_, po_none, P Hs H (Grow.refl S.sub)⟩⟩
theorem so_some (h : SE X E ks .bor e g) : SO X E ks (some e) (gPart g) := by
  refine ⟨fun Hs H r σ W Q tk S P => ?_⟩
  refine ⟨_, po_some pe_we, ?_⟩
  refine h.run _ _ _ _ _ _ tk S ?_
  unfold gPart at P
  cases q : g r with
  | stuck => rw [q] at P; exact P
  | exc x => rw [q] at P; exact P
  | ok d =>
    rw [q] at P
    intro v Hs' H' g1 k1
    cases d <;> first | exact False.elim P | skip
    cases k1.rb.intInv
    exact ⟨_, rfl, P Hs' H' g1⟩
@[simp] def dSlL (d : D) (lo hi : Option Int) : R D := match d with
  | .lst ds => .ok (.lst (cutL ds lo hi))
  | .tup ds => .ok (.tup (cutL ds lo hi))
  | .str x => if x.length ≤ szL then .ok (.str (cutS x lo hi)) else .stuck
  | _ => .stuck
theorem cutL_whole {α : Type} {xs : List α} {lo hi : Option Int} (h : HT.sIx xs.length 0 lo = 0 ∧ HT.sIx xs.length xs.length hi = xs.length) : cutL xs lo hi = xs := by
  unfold cutL
  rw [h.1, h.2, List.drop_zero, Nat.sub_zero, List.take_length]
@[simp] def gSl (ga : Sl → R D) (gl gh : Sl → R (Option Int)) : Sl → R D := fun r => do
  let d ← ga r
  let l ← gl r
  let h ← gh r
  dSlL d l h
theorem se_slL (ha : SE X E ks .bor a ga) (hl : SO X E ks lo gl) (hh : SO X E ks hi gh) : SE X E ks (.own none) (.Subscript a (.Slice lo hi none p2) pos) (gSl ga gl gh) := by
  refine ⟨fun Hs H r σ W Q tk S P => ?_⟩
  refine we_of (pe_slice ((sl_list.or sl_tupA).or sl_str) pe_we po_wo po_wo) ?_
  refine ha.run _ _ _ _ _ _ tk S (Post.imp (F := fun d => gl r >>= fun l => gh r >>= fun h => dSlL d l h) P fun d v Hs1 H1 e1 g1 k1 P1 => ?_)
  refine hl.run _ _ _ _ _ _ tk (S.grow g1) ?_
  cases q : gl r with
  | stuck => rw [q] at P1; exact P1
  | exc x => rw [q] at P1; exact P1
  | ok l =>
    rw [q] at P1
    intro Hs2 H2 g2
    refine hh.run _ _ _ _ _ _ tk ((S.grow g1).grow g2) ?_
    have P2 : Post E.cl (.own none) Hs2 H2 Q (fun c dd H' => W c dd σ H') (gh r >>= fun h => dSlL d l h) := Post.grow (r := gh r >>= fun h => dSlL d l h) P1 g2
    cases q2 : gh r with
    | stuck => rw [q2] at P2; exact P2
    | exc x => rw [q2] at P2; exact P2
    | ok h =>
      rw [q2] at P2
      intro Hs3 H3 g3
      have P3 : Post E.cl (.own none) Hs3 H3 Q (fun c dd H' => W c dd σ H') (dSlL d l h) := Post.grow (r := dSlL d l h) P2 g3
      cases d <;> first | exact P3.elim | skip
      · cases ((k1.rb.grow g2).grow g3).strInv
        dsimp only [dSlL] at P3
        split at P3
        · rename_i hz
          exact .inr ⟨_, rfl, by rw [szL_eq]; exact hz, P3.fin g3.sub rfl (.str _)⟩
        · exact P3.elim
      · obtain ⟨p, xs, rfl, h1, r1⟩ := ((k1.rb.grow g2).grow g3).lstInv g3.sub
        exact .inl (.inl ⟨p, xs, rfl, SqL.of h1, fun q hq => P3.finL g3.sub hq (cut_rep r1)⟩)
      · have b1 := (k1.rb.grow g2).grow g3
        have b1' := b1
        obtain ⟨p, xs, rfl, h1, r1⟩ := b1.tupInv g3.sub
        refine .inl (.inr ⟨p, xs, rfl, SqT.of h1, fun z => ?_, fun _ q hq => ?_⟩)
        · rw [r1.length] at z
          dsimp only [dSlL] at P3
          rw [cutL_whole z] at P3
          cases b1' with
          | val rr => exact P3.fin g3.sub rfl rr
        · exact P3 _ _ _ (Grow.new g3.sub hq) (RK.ownPlain rfl (.tup upd_same (RepL.same (Same.updNew (g3.sub.free hq)) _ _ (cut_rep r1))))
end
end VL
end

noncomputable section
namespace VL
open PySem PySem.Spec PyProof.Rows L2
variable {md : Md}

/-- how an argument lies: stable, or borrowed -/
inductive RAs (cl : Cl) (Hs H : Hp) : List Bool → List D → List V → Prop
  | nil : RAs cl Hs H [] [] []
  | val {d : D} {v : V} {bs : List Bool} {ds : List D} {vs : List V} : Rep cl Hs d v → RAs cl Hs H bs ds vs → RAs cl Hs H (true :: bs) (d :: ds) (v :: vs)
  | bor {d : D} {v : V} {bs : List Bool} {ds : List D} {vs : List V} : RB cl Hs H d v → RAs cl Hs H bs ds vs → RAs cl Hs H (false :: bs) (d :: ds) (v :: vs)
theorem RAs.grow {cl : Cl} {Hs H Hs' H' : Hp} (g : Grow Hs H Hs' H') : ∀ {bs : List Bool} {ds : List D} {vs : List V}, RAs cl Hs H bs ds vs → RAs cl Hs' H' bs ds vs
  | _, _, _, .nil => .nil
  | _, _, _, .val r t => .val (Rep.same g.s _ _ r) (RAs.grow g t)
  | _, _, _, .bor r t => .bor (r.grow g) (RAs.grow g t)
theorem RAs.len {cl : Cl} {Hs H : Hp} : ∀ {bs : List Bool} {ds : List D} {vs : List V}, RAs cl Hs H bs ds vs → vs.length = bs.length ∧ ds.length = bs.length
  | _, _, _, .nil => ⟨rfl, rfl⟩
  | _, _, _, .val r t => by simp [RAs.len t]
  | _, _, _, .bor r t => by simp [RAs.len t]
theorem RAs.reps {cl : Cl} {Hs H : Hp} : ∀ {n : Nat} {ds : List D} {vs : List V}, RAs cl Hs H (List.replicate n true) ds vs → RepL cl Hs ds vs
  | 0, _, _, h => by cases h; exact .nil
  | n + 1, _, _, h => by
    rw [List.replicate_succ] at h
    cases h with
    | val r t => exact .cons r (RAs.reps t)
def PostA (cl : Cl) (bs : List Bool) (Hs H : Hp) (Q : List V → Hp → Prop) (W : WX0) : R (List D) → Prop
  | .stuck => False
  | .exc x => ∀ c dd Hs' H', Grow Hs H Hs' H' → XRep cl Hs' H' x c dd → W c dd H'
  | .ok ds => ∀ vs Hs' H', Grow Hs H Hs' H' → RAs cl Hs' H' bs ds vs → Q vs H'
theorem PostA.grow {cl : Cl} {bs : List Bool} {Hs H Hs' H' : Hp} {Q : List V → Hp → Prop} {W : WX0} {r : R (List D)} (P : PostA cl bs Hs H Q W r) (g : Grow Hs H Hs' H') : PostA cl bs Hs' H' Q W r := by
  cases r with
  | stuck => exact P
  | exc x => exact fun c dd Hs2 H2 g2 x2 => P c dd Hs2 H2 (g.trans g2) x2
  | ok d => exact fun vs Hs2 H2 g2 => P vs Hs2 H2 (g.trans g2)
structure SA [md : Md] (X : Cx) (E : En) (ks : List Kd) (bs : List Bool) (es : List Expr) (g : Sl → R (List D)) : Prop where
  run : ∀ (Hs H : Hp) (r : Sl) (σ : L2.St) (W : WX) (Q : List V → Hp → Prop), Takes X W → StRel E Hs H ks r σ → PostA E.cl bs Hs H Q (fun c dd H' => W c dd σ H') (g r) → WAx X es σ H Q
@[simp] def gNil : Sl → R (List D) := fun _ => .ok []
@[simp] def gCons (g : Sl → R D) (t : Sl → R (List D)) : Sl → R (List D) := fun r => do
  let d ← g r
  let ds ← t r
  .ok (d :: ds)
/-- from an argument list to what is made of it -/
theorem PostA.of {cl : Cl} {k : Kd} {bs : List Bool} {Hs H : Hp} {Q : VK} {W : WX0} {r : R (List D)} {f : List D → R D} {Q1 : List V → Hp → Prop} (P : Post cl k Hs H Q W (r >>= f))
    (h : ∀ ds vs Hs' H', r = .ok ds → Grow Hs H Hs' H' → RAs cl Hs' H' bs ds vs → Post cl k Hs' H' Q W (f ds) → Q1 vs H') : PostA cl bs Hs H Q1 W r := by
  cases r with
  | stuck => exact P
  | exc x => exact P
  | ok ds => exact fun vs Hs' H' g a => h ds vs Hs' H' rfl g a (Post.grow (r := f ds) P g)
section
variable {X : Cx} {E : En} {ks : List Kd} {e : Expr} {es : List Expr} {g : Sl → R D} {t : Sl → R (List D)} {bs : List Bool} {pos : Pos}
theorem sa_nil : SA X E ks [] [] gNil := ⟨fun Hs H r σ W Q tk S P => wa_of pa_nil (P [] Hs H (Grow.refl S.sub) .nil)⟩
theorem sa_cons_core {k : Kd} {b : Bool} (he : SE X E ks k e g) (ht : SA X E ks bs es t) (hs : starEach (e :: es) X.env = (false, eval e X.env) :: starEach es X.env)
    (mk : ∀ {cl Hs H H0 d v ds vs}, RK cl k H0 Hs H d v → RAs cl Hs H bs ds vs → RAs cl Hs H (b :: bs) (d :: ds) (v :: vs))
    (gr : ∀ {cl : Cl} {Hs H Hs' H' H0 : Hp} {d : D} {v : V}, RK cl k H0 Hs H d v → Grow Hs H Hs' H' → RK cl k H0 Hs' H' d v) : SA X E ks (b :: bs) (e :: es) (gCons g t) := by
  refine ⟨fun Hs H r σ W Q tk S P => ?_⟩
  refine wa_of (pa_cons pe_we pa_wa hs) ?_
  refine he.run _ _ _ _ _ _ tk S ?_
  unfold gCons at P
  cases q : g r with
  | stuck => rw [q] at P; exact P
  | exc x => rw [q] at P; exact P
  | ok d =>
    rw [q] at P
    intro v Hs1 H1 g1 k1
    refine ht.run _ _ _ _ _ _ tk (S.grow g1) ?_
    have P1 := PostA.grow (r := t r >>= fun ds => R.ok (d :: ds)) P g1
    cases q2 : t r with
    | stuck => rw [q2] at P1; exact P1
    | exc x => rw [q2] at P1; exact P1
    | ok ds =>
      rw [q2] at P1
      exact fun vs Hs2 H2 g2 a2 => P1 _ Hs2 H2 g2 (mk (gr k1 g2) a2)
theorem sa_v (he : SE X E ks .val e g) (ht : SA X E ks bs es t) (hs : starEach (e :: es) X.env = (false, eval e X.env) :: starEach es X.env := by rfl) : SA X E ks (true :: bs) (e :: es) (gCons g t) :=
  sa_cons_core he ht hs (fun k a => .val k.rep a) fun k g => RK.val (Rep.same g.s _ _ k.rep)
theorem sa_b (he : SE X E ks .bor e g) (ht : SA X E ks bs es t) (hs : starEach (e :: es) X.env = (false, eval e X.env) :: starEach es X.env := by rfl) : SA X E ks (false :: bs) (e :: es) (gCons g t) :=
  sa_cons_core he ht hs (fun k a => .bor k.rb a) fun k g => (k.rb.grow g).rk

@[simp] def gLst (t : Sl → R (List D)) : Sl → R D := fun r => do
  let ds ← t r
  if ds.length ≤ szL then .ok (.lst ds) else .stuck
@[simp] def gTup (t : Sl → R (List D)) : Sl → R D := fun r => do
  let ds ← t r
  if ds.length ≤ szL then .ok (.tup ds) else .stuck
theorem se_lst {n : Nat} (h : SA X E ks (List.replicate n true) es t) : SE X E ks (.own none) (.List es pos) (gLst t) := by
  refine ⟨fun Hs H r σ W Q tk S P => ?_⟩
  refine we_of (pe_lst pa_wa) ?_
  refine h.run _ _ _ _ _ _ tk S (PostA.of P fun ds vs Hs' H' e1 g1 a P1 => ?_)
  have rp := a.reps
  split at P1
  · rename_i z
    exact ⟨by rw [szL_eq, rp.length]; exact z, fun p hp => P1.finL g1.sub hp rp⟩
  · exact P1.elim
theorem se_tup {n : Nat} {x1 : Nat} (h : SA X E ks (List.replicate n true) es t) : SE X E ks .val (.Tuple es x1 pos) (gTup t) := by
  refine ⟨fun Hs H r σ W Q tk S P => ?_⟩
  refine we_of (pe_tup pa_wa) ?_
  refine h.run _ _ _ _ _ _ tk S (PostA.of P fun ds vs Hs' H' e1 g1 a P1 => ?_)
  have rp := a.reps
  split at P1
  · rename_i z
    refine ⟨by rw [szL_eq, rp.length]; exact z, fun p hp => ?_⟩
    exact P1 _ _ _ (Grow.new g1.sub hp) (RK.val (.tup upd_same (RepL.same (Same.updNew (g1.sub.free hp)) _ _ rp)))
  · exact P1.elim

def CallV (K : PySem.W.Frag) (rr : List V → Hp → VK → Prop) (k : Kd) (bs : List Bool) (f : List D → R D) : Prop :=
  ∀ (cl : Cl) (Hs H : Hp) (ds : List D) (vs : List V) (Q : VK) (W : WX0), Same Hs H → RAs cl Hs H bs ds vs → Post cl k Hs H Q W (f ds) → rr vs H Q
@[simp] def gCall (f : List D → R D) (t : Sl → R (List D)) : Sl → R D := fun r => do
  let ds ← t r
  f ds
theorem se_callB {id : String} {x : Str} {p : Pos} {rr : List V → Hp → VK → Prop} {k : Kd} {f : List D → R D} (hc : CallR X (.builtin id) rr) (hv : CallV X.K rr k bs f) (hm : X.mg x = none) (hb : bootBuiltins x = some (.builtin id)) (ha : SA X E ks bs (e :: es) t)
    (hg : Gl X x := by rfl) (hn : x ≠ "__name__" := by decide) (hdb : (x == ("__debug__" : Str)) = false := by decide)
    (he : starEach (e :: es) X.env = (false, eval e X.env) :: starEach es X.env := by rfl) (hpl : (backTo pos (starEach es X.env)).any (·.1) = false := by rfl) : SE X E ks k (.Call (.Name x p) (e :: es) [] pos) (gCall f t) := by
  refine ⟨fun Hs H r σ W Q tk S P => ?_⟩
  refine we_of (pe_callB hc hg hm hb pa_wa hn hdb he hpl) ?_
  exact ha.run _ _ _ _ _ _ tk S (PostA.of P fun ds vs Hs' H' e1 g1 a P1 => hv _ _ _ _ _ _ _ g1.sub a P1)
theorem se_callTy {T : String} {x : Str} {p : Pos} {rr : List V → Hp → VK → Prop} {k : Kd} {f : List D → R D} (hc : CallR X (.type T) rr) (hv : CallV X.K rr k bs f) (hm : X.mg x = none) (hb : bootBuiltins x = some (.type T)) (ha : SA X E ks bs (e :: es) t)
    (hg : Gl X x := by rfl) (hn : x ≠ "__name__" := by decide) (hdb : (x == ("__debug__" : Str)) = false := by decide)
    (he : starEach (e :: es) X.env = (false, eval e X.env) :: starEach es X.env := by rfl) (hpl : (backTo pos (starEach es X.env)).any (·.1) = false := by rfl) : SE X E ks k (.Call (.Name x p) (e :: es) [] pos) (gCall f t) := by
  refine ⟨fun Hs H r σ W Q tk S P => ?_⟩
  refine we_of (pe_callTy hc hg hm hb pa_wa hn hdb he hpl) ?_
  exact ha.run _ _ _ _ _ _ tk S (PostA.of P fun ds vs Hs' H' e1 g1 a P1 => hv _ _ _ _ _ _ _ g1.sub a P1)
end

@[simp] def fLen : List D → R D
  | [.lst ds] => .ok (.int ds.length)
  | [.tup ds] => .ok (.int ds.length)
  | [.str x] => if x.length ≤ szL then .ok (.int x.length) else .stuck
  | [.dct ds] => .ok (.int ds.length)
  | _ => .stuck
theorem RAs.one {cl : Cl} {Hs H : Hp} {ds : List D} {vs : List V} (h : RAs cl Hs H [false] ds vs) : ∃ d v, ds = [d] ∧ vs = [v] ∧ RB cl Hs H d v := by
  cases h with
  | bor r t => cases t; exact ⟨_, _, rfl, rfl, r⟩
theorem RepK.length {cl : Cl} {H : Hp} : ∀ {ds : List (Key × D)} {vs : List (Key × V)}, RepK cl H ds vs → vs.length = ds.length
  | [], _, h => by cases h; rfl
  | (k, d) :: ds, _, h => by
    cases h with
    | cons h1 h2 => rw [List.length_cons, List.length_cons, RepK.length h2]
theorem call_lenR {X : Cx} : CallR X (.builtin "len") (fun xs H Q => ∃ a kvs, xs = [V.ref a] ∧ Rd H a (.dK kvs) ∧ Q (.int kvs.length) H) := by
  intro pins s σ H xs us Q I r h
  obtain ⟨a, kvs, rfl, ha, q⟩ := h
  obtain ⟨u, rfl, ru⟩ := vals1 r
  cases ru
  exact d_len I ha fun t s' I' => ⟨.int kvs.length, H, I', ⟨t, rfl⟩, q⟩
theorem callv_len {X : Cx} : CallV X.K (fun xs H Q => (∃ x n, xs = [x] ∧ LenV X.K x H n ∧ Q (.int n) H) ∨ (∃ a kvs, xs = [V.ref a] ∧ Rd H a (.dK kvs) ∧ Q (.int kvs.length) H)) .val [false] fLen := by
  intro cl Hs H ds vs Q W e a P
  obtain ⟨d, v, rfl, rfl, r⟩ := a.one
  cases d <;> first | exact P.elim | skip
  · cases r.strInv
    dsimp only [fLen] at P
    split at P
    · rename_i h
      exact .inl ⟨_, _, rfl, ⟨by rw [szL_eq]; exact h, rfl⟩, P.finV e (.int _)⟩
    · exact P.elim
  · obtain ⟨p, xs, rfl, h1, r1⟩ := r.lstInv e
    refine .inl ⟨_, xs.length, rfl, .inl ⟨xs, SqL.of h1, rfl⟩, ?_⟩
    rw [r1.length]
    exact P.finV e (.int _)
  · obtain ⟨p, xs, rfl, h1, r1⟩ := r.tupInv e
    refine .inl ⟨_, xs.length, rfl, .inr ⟨xs, SqT.of h1, rfl⟩, ?_⟩
    rw [r1.length]
    exact P.finV e (.int _)
  · obtain ⟨p, xs, rfl, h1, r1⟩ := r.dctInv e
    refine .inr ⟨p, xs, rfl, h1, ?_⟩
    rw [r1.length]
    exact P.finV e (.int _)
@[simp] def fInt : List D → R D
  | [.int i] => .ok (.int i)
  | [.bl k] => .ok (.int (if k then 1 else 0))
  | [.str x] => if x.length ≤ 640 then (match PySem.intText? x with
    | some n => .ok (.int n)
    | none => .stuck) else .stuck
  | _ => .stuck
theorem callv_int {X : Cx} : CallV X.K (fun xs H Q => ((∃ i, xs = [.int i] ∧ Q (.int i) H) ∨ ∃ k, xs = [.bl k] ∧ Q (.int (if k then 1 else 0)) H) ∨ ∃ a n, xs = [.str a] ∧ PySem.intText? a = some n ∧ a.length ≤ 640 ∧ Q (.int n) H) .val [false] fInt := by
  intro cl Hs H ds vs Q W e a P
  obtain ⟨d, v, rfl, rfl, r⟩ := a.one
  cases d <;> first | exact P.elim | skip
  · cases r.blInv
    exact .inl (.inr ⟨_, rfl, P.finV e (.int _)⟩)
  · cases r.intInv
    exact .inl (.inl ⟨_, rfl, P.finV e (.int _)⟩)
  · cases r.strInv
    dsimp only [fInt] at P
    split at P
    · rename_i h
      split at P
      · rename_i n q
        exact .inr ⟨_, n, rfl, q, h, P.finV e (.int _)⟩
      · exact P.elim
    · exact P.elim
def lmin : List Int → Int
  | [] => 0
  | [x] => x
  | x :: y :: r => min x (lmin (y :: r))
@[simp] def fList : List D → R D
  | [.lst ds] => .ok (.lst ds)
  | [.tup ds] => .ok (.lst ds)
  | _ => .stuck
@[simp] def fTuple : List D → R D
  | [.lst ds] => .ok (.tup ds)
  | [.tup ds] => .ok (.tup ds)
  | _ => .stuck
theorem callv_list {X : Cx} : CallV X.K (fun xs H Q => ∃ p ys, xs = [.ref p] ∧ (SqL X.K H p ys ∨ SqT X.K H p ys) ∧ ∀ l, H l = none → Q (.ref l) (upd H l (.lst ys))) (.own none) [false] fList := by
  intro cl Hs H ds vs Q W e a P
  obtain ⟨d, v, rfl, rfl, r⟩ := a.one
  cases d <;> first | exact P.elim | skip
  · obtain ⟨p, xs, rfl, h1, r1⟩ := r.lstInv e
    exact ⟨p, xs, rfl, .inl (SqL.of h1), fun l hl => P.finL e hl r1⟩
  · obtain ⟨p, xs, rfl, h1, r1⟩ := r.tupInv e
    exact ⟨p, xs, rfl, .inr (SqT.of h1), fun l hl => P.finL e hl r1⟩
theorem callv_tuple {X : Cx} : CallV X.K (fun xs H Q => ∃ p ys, xs = [.ref p] ∧ ((SqL X.K H p ys ∧ ∀ l, H l = none → Q (.ref l) (upd H l (.tup ys))) ∨ (SqT X.K H p ys ∧ Q (.ref p) H))) .val [false] fTuple := by
  intro cl Hs H ds vs Q W e a P
  obtain ⟨d, v, rfl, rfl, r⟩ := a.one
  cases d <;> first | exact P.elim | skip
  · obtain ⟨p, xs, rfl, h1, r1⟩ := r.lstInv e
    refine ⟨p, xs, rfl, .inl ⟨SqL.of h1, fun l hl => ?_⟩⟩
    exact P _ _ _ (Grow.new e hl) (RK.val (.tup upd_same (RepL.same (Same.updNew (e.free hl)) _ _ r1)))
  · cases r with
    | val r0 =>
      cases r0 with
      | tup h1 r1 => exact ⟨_, _, rfl, .inr ⟨SqT.of (e.at _ _ h1), P.finV e (.tup h1 r1)⟩⟩
end VL
end

noncomputable section
namespace VL
open PySem PySem.Spec PyProof.Rows L2
variable {md : Md}

theorem turn_longrange {P : Program} {w : World} {K : PySem.W.Frag} {tg : Expr} (it : Addr) (lo : Int) (n : Nat) : Turn P w K tg (Itr lo n) [it] it (fun i h => IsLongIter h it (lo + (i : Nat) * 1) ((n : Int) - (i : Nat)) 1) where
  mem := by simp
  obj := fun i h st b hb => by
    have e : b = it := by simpa using hb
    subst e
    exact ⟨_, st, fun v z => by
      have z' : Data.fields _ = Data.cell v := z
      cases z'⟩
  keep := fun i h h' st k => k it (by simp) _ st
  item := by
    intro X hP hw hK hc i pins s σ H E I hf st hg
    subst hP hw hK
    obtain ⟨f0, f1, f2, f3, f4, f5⟩ := hf it (by simp)
    have W := Walks.longrange (prog := X.prog) (w := X.w) (I.ok.hd hc) it lo 1 n
    refine W.item i s _ _ hg st fun v h' tk hv st' kk => ?_
    obtain ⟨t, rfl⟩ := hv
    have I1 : Inv X pins σ H { s with heap := h', toks := tk } := I.turned (fun b o hb e => kk b o (by simpa using hb) e) f0 f1 f3 f4 f5
    refine ⟨_, rfl, go_of (s := { s with heap := h', toks := tk }) (n := "longrange_iterator") st' rfl rfl (by decide) ⟨.int (lo + i), H, I1, ⟨t, ?_⟩, ⟨rfl, rfl⟩, st', fun b hb => (hf b hb).1⟩⟩
    rw [Int.mul_one]
  done := by
    intro X hP hw hK hc i pins s σ H E I hf st hg
    subst hP hw hK
    obtain ⟨f0, f1, f2, f3, f4, f5⟩ := hf it (by simp)
    exact wpAny_pyNext_long_end (I.ok.hd hc) st (by have : n ≤ i := hg; omega) fun h' eb => ⟨rfl, I.turned (t' := s.toks) (fun b o hb e => eb b o hb e) f0 f1 f3 f4 f5⟩
  self := fun _ _ _ _ _ st h => wpAny_pyIter_longiter st h
section
variable {X : Cx} {tg : Expr}
/-- a range object just made, walked, wherever its ends lie -/
theorem range_itA {pins : List (Addr × Obj)} {σ : L2.St} {H : Hp} {s : Shared} {R : It → Hp → Prop} {E : Value → Shared → Prop} {lo hi : Int} {t u v : Tok} {tk : Nat} (I : Inv X pins σ H s)
    (q : R (Itr lo (hi - lo).toNat) H) : wpAny (model X.prog X.w) X.A (pyIter (.ref s.heap.objs.size)) (PIE X pins σ tg R) E { s with heap := s.heap.push { cls := .type "range", data := .fields #[.int lo t, .int hi u, .int 1 v] }, toks := tk } := by
  have I1 : Inv X pins σ H { s with heap := s.heap.push { cls := .type "range", data := .fields #[.int lo t, .int hi u, .int 1 v] }, toks := tk } := I.kept fun b o e => Heap.get?_push_of_some _ e
  have e1 : lo + ((0 : Nat) : Int) * 1 = lo := by simp
  have e2 : (((hi - lo).toNat : Nat) : Int) - ((0 : Nat) : Int) = Builtin.Range.rangeSize lo hi 1 := by rw [rangeSize_one]; split <;> omega
  cases z : Builtin.Range.small lo hi 1 with
  | true =>
    refine wpAny_pyIter_range (IsRange.new ..) z ?_
    refine ⟨_, [_], _, _, H, rfl, I1.kept (t' := tk) fun b o e => Heap.get?_push_of_some _ e, turn_range _ lo (hi - lo).toNat, ?_, fun b hb => ?_, q⟩
    · show IsRangeIter _ _ (lo + ((0 : Nat) : Int) * 1) ((((hi - lo).toNat : Nat) : Int) - ((0 : Nat) : Int)) 1
      rw [e1, e2]
      exact Heap.get?_push_size _ rfl
    · have e := List.mem_singleton.mp hb
      subst e
      exact I1.fpOk (Nat.le_refl _) (I1.hok.fresh (Nat.le_refl _))
  | false =>
    refine wpAny_pyIter_longrange (IsRange.new ..) z ?_
    refine ⟨_, [_], _, _, H, rfl, I1.kept (t' := tk) fun b o e => Heap.get?_push_of_some _ e, turn_longrange _ lo (hi - lo).toNat, ?_, fun b hb => ?_, q⟩
    · show IsLongIter _ _ (lo + ((0 : Nat) : Int) * 1) ((((hi - lo).toNat : Nat) : Int) - ((0 : Nat) : Int)) 1
      rw [e1, e2]
      exact Heap.get?_push_size _ rfl
    · have e := List.mem_singleton.mp hb
      subst e
      exact I1.fpOk (Nat.le_refl _) (I1.hok.fresh (Nat.le_refl _))
def iRngA1 (ta : TA) : TI := fun σ H R => ta σ H fun vs H1 => ∃ j : Int, vs = [.int j] ∧ R (Itr 0 j.toNat) H1
theorem pi_rangeA1 {a : Expr} {ta : TA} {p pos : Pos} (hg : Gl X "range") (hm : X.mg "range" = none) (ha : PA X [a] ta) (hs : starEach [a] X.env = [(false, eval a X.env)] := by rfl) : PI X tg (.Call (.Name "range" p) [a] [] pos) (iRngA1 ta) := by
  refine ⟨fun pins s σ H R I h => ?_⟩
  refine Call_ (ld_blt I hg hm boot_range (PyProof.Rows.callWith_type1 (thn (ha.run pos pins s σ H _ I h) fun us s1 ⟨vs, H1, I1, r1, q1⟩ => ?_) hs rfl))
  obtain ⟨j, e, q⟩ := q1
  subst e
  cases r1 with
  | cons r rr =>
    cases rr
    obtain ⟨t, rfl⟩ := r
    exact call_range_1 (range_itA I1 (by simpa using q))
end

def setV (σ : L2.St) : List Nat → List V → L2.St
  | i :: is, v :: vs => setV (σ.set i (some v)) is vs
  | _, _ => σ
@[simp] def setD (r : Sl) : List Nat → List D → Sl
  | i :: is, d :: ds => setD (r.set i (some d)) is ds
  | _, _ => r
def setK (ks : List Kd) : List Nat → List Kd
  | i :: is => setK (ks.set i .val) is
  | [] => ks
inductive Tg where
  | one (i : Nat)
  | tup (is : List Nat)
@[simp] def Tg.is : Tg → List Nat
  | .one i => [i]
  | .tup is => is
@[simp] def Tg.un : Tg → D → R (List D)
  | .one _, d => .ok [d]
  | .tup is, .tup ds => if ds.length = is.length then .ok ds else .stuck
  | .tup _, _ => .stuck
def WGx (X : Cx) (tg : Expr) : TG := fun v σ H Q => ∃ t, PG X tg t ∧ t v σ H Q
theorem pg_wg {X : Cx} {tg : Expr} : PG X tg (WGx X tg) := ⟨fun pins s σ H v u Q I r ⟨t, p, h⟩ => p.run pins s σ H v u Q I r h⟩
structure SG (X : Cx) (tg : Expr) (t : Tg) : Prop where
  run : ∀ (cl : Cl) (Hs H : Hp) (σ : L2.St) (d : D) (v : V) (ds : List D) (Q : L2.St → Hp → Prop), Same Hs H → Rep cl Hs d v → t.un d = .ok ds → (∀ vs, RepL cl Hs ds vs → Q (setV σ t.is vs) H) → WGx X tg v σ H Q
section
variable {X : Cx} {pos : Pos}
theorem sg_name {i : Nat} {x : Str} (hN : X.N.Nodup) (hi : X.N[i]? = some x := by rfl) (hx : Loc X.env.scope x := by first | exact Or.inl rfl | exact Or.inr rfl)
    (hf : X.fn x = true ∨ X.env.scope.names.lookup x = some .local := by first | exact .inl rfl | exact .inr rfl | assumption) : SG X (.Name x pos) (.one i) := by
  refine ⟨fun cl Hs H σ d v ds Q e r h q => ?_⟩
  cases h
  exact ⟨_, pg_name hN hi hx hf, q [v] (.cons r .nil)⟩
def gsN : List Nat → TGs
  | [] => L2.gNil
  | i :: is => L2.gCons (gName i) (gsN is)
theorem gsN_read : ∀ {is : List Nat} {vs : List V} {σ : L2.St} {H : Hp} {Q : L2.St → Hp → Prop}, vs.length = is.length → Q (setV σ is vs) H → gsN is vs σ H Q
  | [], [], _, _, _, _, q => ⟨rfl, q⟩
  | [], _ :: _, _, _, _, h, _ => by cases h
  | _ :: _, [], _, _, _, h, _ => by cases h
  | i :: is, v :: vs, σ, H, Q, h, q => ⟨v, vs, rfl, gsN_read (by simpa using h) q⟩
theorem sgs_nil : PGs X [] (gsN []) := pgs_nil
theorem sgs_cons {i : Nat} {x : Str} {es : List Expr} {is : List Nat} (hN : X.N.Nodup) (ht : PGs X es (gsN is)) (hi : X.N[i]? = some x := by rfl) (hx : Loc X.env.scope x := by first | exact Or.inl rfl | exact Or.inr rfl)
    (hf : X.fn x = true ∨ X.env.scope.names.lookup x = some .local := by first | exact .inl rfl | exact .inr rfl | assumption)
    (hs : (assignEach (.Name x pos :: es) X.env).map (·.2) = assign (.Name x pos) X.env :: (assignEach es X.env).map (·.2) := by rfl) : PGs X (.Name x pos :: es) (gsN (i :: is)) := pgs_cons (pg_name hN hi hx hf) ht hs
theorem sg_tup {es : List Expr} {is : List Nat} {k : Nat} (hc : X.calm = true) (h : PGs X es (gsN is)) (hn : (assignEach es X.env).length = is.length := by rfl) (hst : (assignEach es X.env).findIdx? (·.1) = none := by rfl) : SG X (.Tuple es k pos) (.tup is) := by
  refine ⟨fun cl Hs H σ d v ds Q e r hu q => ?_⟩
  cases d <;> first | (cases hu; done) | skip
  dsimp only [Tg.un] at hu
  split at hu
  · rename_i hl
    cases hu
    cases r with
    | tup h1 h2 => exact ⟨_, pg_tup hc h hn hst, _, _, rfl, SqT.of (e.at _ _ h1), by rw [h2.length]; exact hl, gsN_read (by rw [h2.length]; exact hl) (q _ h2)⟩
  · cases hu
end
section
variable {E : En} {Hs H : Hp} {ks : List Kd} {r : Sl} {σ : L2.St}
theorem StOk.put {As : List Addr} {i : Nat} {k : Kd} {d : D} {v : V} (S : StOk E Hs H ks r σ As) (hk : ks[i]? = some k) (rp : Rep E.cl Hs d v) : ∃ As', StOk E Hs H (ks.set i .val) (r.set i (some d)) (σ.set i (some v)) As' := by
  obtain ⟨pre, A, post, e, _, f, _, _⟩ := S.sl.at_ i hk
  have sub : (pre ++ ([] ++ post)).Sublist As := by
    rw [e]
    exact List.Sublist.append (List.Sublist.refl _) (by
      rw [List.nil_append]
      exact List.sublist_append_right _ _)
  exact ⟨_, f .val d v [] (.val rp), S.nd.sublist sub, fun a ha => S.dis a (sub.subset ha), S.es, S.sub, S.eb, S.new, S.dom, S.tb⟩
theorem StRel.put {i : Nat} {k : Kd} {d : D} {v : V} (S : StRel E Hs H ks r σ) (hk : ks[i]? = some k) (rp : Rep E.cl Hs d v) : StRel E Hs H (ks.set i .val) (r.set i (some d)) (σ.set i (some v)) :=
  let ⟨_, s⟩ := S
  s.put hk rp
theorem StRel.wipe1 {i : Nat} {k k' : Kd} (S : StRel E Hs H ks r σ) (hk : ks[i]? = some k) (x : Option V) : StRel E Hs H (ks.set i k') (r.set i none) (σ.set i x) := by
  obtain ⟨As, S⟩ := S
  obtain ⟨pre, A, post, e, _, _, f, _⟩ := S.sl.at_ i hk
  have sub : (pre ++ post).Sublist As := by
    rw [e]
    exact List.Sublist.append (List.Sublist.refl _) (List.sublist_append_right _ _)
  exact ⟨_, f k' x, S.nd.sublist sub, fun a ha => S.dis a (sub.subset ha), S.es, S.sub, S.eb, S.new, S.dom, S.tb⟩
theorem StRel.puts : ∀ {is : List Nat} {ks : List Kd} {r : Sl} {σ : L2.St} {ds : List D} {vs : List V}, StRel E Hs H ks r σ → (∀ i ∈ is, i < ks.length) → ds.length = is.length → RepL E.cl Hs ds vs → StRel E Hs H (setK ks is) (setD r is ds) (setV σ is vs)
  | [], _, _, _, [], _, S, _, _, rp => by cases rp; exact S
  | [], _, _, _, _ :: _, _, _, _, h, _ => by cases h
  | _ :: _, _, _, _, [], _, _, _, h, _ => by cases h
  | i :: is, ks, r, σ, d :: ds, _, S, hi, hl, rp => by
    cases rp with
    | cons r1 r2 =>
      have h0 := hi i List.mem_cons_self
      refine StRel.puts (is := is) (S.put (k := ks[i]) (by simp [h0]) r1) (fun j hj => ?_) (by simpa using hl) r2
      rw [List.length_set]
      exact hi j (List.mem_cons_of_mem _ hj)
end
theorem Tg.un_len {t : Tg} {d : D} {ds : List D} (h : t.un d = .ok ds) : ds.length = t.is.length := by
  cases t with
  | one i => cases h; rfl
  | tup is =>
    cases d <;> first | (cases h; done) | skip
    dsimp only [Tg.un] at h
    split at h
    · rename_i e
      cases h
      exact e
    · cases h

/-- all lists are within the line -/
def LenOk (H : Hp) : Prop := ∀ a xs, H a = some (.lst xs) → xs.length ≤ szL
def LenOkT (H : Hp) : Prop := ∀ a xs, H a = some (.tup xs) → xs.length ≤ szL
theorem Inv.lens {X : Cx} {pins : List (Addr × Obj)} {σ : L2.St} {H : Hp} {s : Shared} (I : Inv X pins σ H s) : LenOk H ∧ LenOkT H :=
  ⟨fun a xs e => by
    have q := (I.hok a _ e).1
    rw [szL_eq] at q
    exact q, fun a xs e => by
    have q := (I.hok a _ e).1
    rw [szL_eq] at q
    exact q⟩
theorem we_len {X : Cx} {e : Expr} {σ : L2.St} {H : Hp} {Q : VK} (h : WEx X e σ H fun v H' => LenOk H' ∧ LenOkT H' → Q v H') : WEx X e σ H Q := fun pins s I => thn (h pins s I) fun u s' ⟨v, H', I', r, q⟩ => ⟨v, H', I', r, q (VL.Inv.lens I')⟩
structure ItOk (cl : Cl) (J : It) (ds : List D) (Hs1 Bq : Hp) : Prop where
  len : ds.length ≤ szL
  go : ∀ Hs H, Same Hs1 Hs → Same Hs H → Same Bq H → ∀ i, i < ds.length → J.go i H
  stop : ∀ Hs H, Same Hs1 Hs → Same Hs H → Same Bq H → J.stop ds.length H
  yld : ∀ Hs H, Same Hs1 Hs → Same Hs H → Same Bq H → ∀ i d x H', ds[i]? = some d → J.yld i H x H' → ∃ Hs', Grow Hs H Hs' H' ∧ Rep cl Hs' d x
/-- what may be walked while others change: stable, or borrowed from the caller; md = false: while nothing is changed -/
inductive RQ (cl : Cl) (Hs Bq : Hp) : D → V → Prop
  | val {d : D} {v : V} : Rep cl Hs d v → RQ cl Hs Bq d v
  | lst {a : Addr} {ds : List D} {xs : List V} : Bq a = some (.lst xs) → RepL cl Hs ds xs → RQ cl Hs Bq (.lst ds) (.ref a)
  | dct {a : Addr} {ds : List (Key × D)} {xs : List (Key × V)} : Rd Bq a (.dK xs) → RepK cl Hs ds xs → RQ cl Hs Bq (.dct ds) (.ref a)
  | obj {C : Str} {ds : List (Str × D)} {v : V} : RQ cl Hs Bq (.obj C ds) v
def bq (E : En) (md : Bool) (H : Hp) : Hp := if md then E.b else H
def PostQ (E : En) (md : Bool) (Hs H : Hp) (Q : VK) (W : WX0) : R D → Prop
  | .stuck => False
  | .exc x => ∀ c dd Hs' H', Grow Hs H Hs' H' → XRep E.cl Hs' H' x c dd → W c dd H'
  | .ok d => ∀ v Hs' H', Grow Hs H Hs' H' → RQ E.cl Hs' (bq E md H') d v → Q v H'
theorem PostQ.grow {E : En} {md : Bool} {Hs H Hs' H' : Hp} {Q : VK} {W : WX0} {r : R D} (P : PostQ E md Hs H Q W r) (g : Grow Hs H Hs' H') : PostQ E md Hs' H' Q W r := by
  cases r with
  | stuck => exact P
  | exc x => exact fun c dd Hs2 H2 g2 x2 => P c dd Hs2 H2 (g.trans g2) x2
  | ok d => exact fun v Hs2 H2 g2 => P v Hs2 H2 (g.trans g2)
structure SQ [md : Md] (X : Cx) (E : En) (ks : List Kd) (md : Bool) (e : Expr) (g : Sl → R D) : Prop where
  run : ∀ (Hs H : Hp) (r : Sl) (σ : L2.St) (W : WX) (Q : VK), Takes X W → StRel E Hs H ks r σ → PostQ E md Hs H Q (fun c dd H' => W c dd σ H') (g r) → WEx X e σ H Q
section
variable {X : Cx} {E : En} {ks : List Kd} {md : Bool} {e : Expr} {g : Sl → R D} {pos : Pos}
theorem sq_val (h : SE X E ks .val e g) : SQ X E ks md e g := by
  refine ⟨fun Hs H r σ W Q tk S P => ?_⟩
  refine h.run _ _ _ _ _ _ tk S ?_
  cases q : g r with
  | stuck => rw [q] at P; exact P
  | exc x => rw [q] at P; exact P
  | ok d =>
    rw [q] at P
    exact fun v Hs' H' g1 k1 => P v Hs' H' g1 (.val k1.rep)
theorem sq_bor (h : SE X E ks .bor e g) : SQ X E ks false e g := by
  refine ⟨fun Hs H r σ W Q tk S P => ?_⟩
  refine h.run _ _ _ _ _ _ tk S ?_
  cases q : g r with
  | stuck => rw [q] at P; exact P
  | exc x => rw [q] at P; exact P
  | ok d =>
    rw [q] at P
    intro v Hs' H' g1 k1
    refine P v Hs' H' g1 ?_
    cases k1.rb with
    | val h1 => exact .val h1
    | lst h1 h2 => exact .lst h1 h2
    | dct h1 h2 => exact .dct h1 h2
    | obj _ _ _ => exact .obj
end
def WIx (X : Cx) (tg iter : Expr) : TI := fun σ H R => ∃ wi, PI X tg iter wi ∧ wi σ H R
theorem pi_wi {X : Cx} {tg iter : Expr} : PI X tg iter (WIx X tg iter) := ⟨fun pins s σ H R I ⟨wi, p, h⟩ => p.run pins s σ H R I h⟩
def PostI (E : En) (md : Bool) (Hs H : Hp) (Rr : It → Hp → Prop) (W : WX0) : R (List D) → Prop
  | .stuck => False
  | .exc x => ∀ c dd Hs' H', Grow Hs H Hs' H' → XRep E.cl Hs' H' x c dd → W c dd H'
  | .ok ds => ∀ J Hs' H', Grow Hs H Hs' H' → ItOk E.cl J ds Hs' (bq E md H') → Rr J H'
theorem PostI.grow {E : En} {md : Bool} {Hs H Hs' H' : Hp} {Q : It → Hp → Prop} {W : WX0} {r : R (List D)} (P : PostI E md Hs H Q W r) (g : Grow Hs H Hs' H') : PostI E md Hs' H' Q W r := by
  cases r with
  | stuck => exact P
  | exc x => exact fun c dd Hs2 H2 g2 x2 => P c dd Hs2 H2 (g.trans g2) x2
  | ok d => exact fun v Hs2 H2 g2 => P v Hs2 H2 (g.trans g2)
structure SI [md : Md] (X : Cx) (E : En) (ks : List Kd) (md : Bool) (tg iter : Expr) (g : Sl → R (List D)) : Prop where
  run : ∀ (Hs H : Hp) (r : Sl) (σ : L2.St) (W : WX) (Q : It → Hp → Prop), Takes X W → StRel E Hs H ks r σ → PostI E md Hs H Q (fun c dd H' => W c dd σ H') (g r) → WIx X tg iter σ H Q
/-- what is walked of a value -/
@[simp] def dIter : D → R (List D)
  | .lst ds => .ok ds
  | .tup ds => .ok ds
  | .str x => if x.cps.size ≤ szL then .ok (x.cps.toList.map fun c => .str ⟨#[c]⟩) else .stuck
  | _ => .stuck
@[simp] def gIter (g : Sl → R D) : Sl → R (List D) := fun r => do
  let d ← g r
  dIter d
section
variable {X : Cx} {E : En} {ks : List Kd} {md : Bool} {tg e e2 : Expr} {g g2 : Sl → R D} {pos p : Pos}
theorem PostQ.ofI {Hs H : Hp} {Q : It → Hp → Prop} {W : WX0} {r : R D} {f : D → R (List D)} (P : PostI E md Hs H Q W (r >>= f)) {Q1 : VK}
    (h : ∀ d v Hs' H', r = .ok d → Grow Hs H Hs' H' → RQ E.cl Hs' (bq E md H') d v → PostI E md Hs' H' Q W (f d) → Q1 v H') : PostQ E md Hs H Q1 W r := by
  cases r with
  | stuck => exact P
  | exc x => exact P
  | ok d => exact fun v Hs' H' g rk => h d v Hs' H' rfl g rk (PostI.grow (r := f d) P g)
theorem RQ.root {cl : Cl} {Hs Bq H Hs' : Hp} {ds : List D} {v : V} (q : RQ cl Hs Bq (.lst ds) v) : ∃ a xs, v = .ref a ∧ RepL cl Hs ds xs ∧ ∀ Hs' H, Same Hs Hs' → Same Hs' H → Same Bq H → H a = some (.lst xs) := by
  cases q with
  | val r =>
    cases r with
    | lst h1 h2 => exact ⟨_, _, rfl, h2, fun Hs' H e1 e2 _ => e2.at _ _ (e1.at _ _ h1)⟩
  | lst h1 h2 => exact ⟨_, _, rfl, h2, fun Hs' H _ _ e3 => e3.at _ _ h1⟩
theorem bq_same {H : Hp} (hb : Same E.b H) : Same (bq E md H) H := by
  unfold bq
  split
  · exact hb
  · exact Same.refl _
theorem ItOk.lst {K : PySem.W.Frag} {cl : Cl} {a : Addr} {xs : List V} {ds : List D} {Hs Bq : Hp} (rp : RepL cl Hs ds xs) (rt : ∀ Hs' H, Same Hs Hs' → Same Hs' H → Same Bq H → H a = some (.lst xs)) (hz : xs.length ≤ szL) : ItOk cl (Itl K a) ds Hs Bq where
  len := by rw [← rp.length]; exact hz
  go := fun Hs' H e1 e2 e3 i hi => by
    obtain ⟨v, e, _⟩ := rp.get (d := ds[i]) (i := i) (by simp [hi])
    exact ⟨xs, v, SqL.of (rt Hs' H e1 e2 e3), e⟩
  stop := fun Hs' H e1 e2 e3 => ⟨xs, SqL.of (rt Hs' H e1 e2 e3), by rw [rp.length]; exact Nat.le_refl _⟩
  yld := fun Hs' H e1 e2 e3 i d x H' hd y => by
    obtain ⟨rfl, y⟩ := y
    obtain ⟨v, e, r⟩ := rp.get hd
    have q := y xs (SqL.of (rt Hs' _ e1 e2 e3))
    rw [e] at q
    cases q
    exact ⟨Hs', Grow.refl e2, Rep.same e1 _ _ r⟩
theorem ItOk.tup {K : PySem.W.Frag} {cl : Cl} {a : Addr} {xs : List V} {ds : List D} {Hs Bq : Hp} (rp : RepL cl Hs ds xs) (ha : Hs a = some (.tup xs)) (hz : xs.length ≤ szL) : ItOk cl (Itt K a) ds Hs Bq where
  len := by rw [← rp.length]; exact hz
  go := fun Hs' H e1 e2 e3 i hi => by
    obtain ⟨v, e, _⟩ := rp.get (d := ds[i]) (i := i) (by simp [hi])
    exact ⟨xs, v, SqT.of (e2.at _ _ (e1.at _ _ ha)), e⟩
  stop := fun Hs' H e1 e2 e3 => ⟨xs, SqT.of (e2.at _ _ (e1.at _ _ ha)), by rw [rp.length]; exact Nat.le_refl _⟩
  yld := fun Hs' H e1 e2 e3 i d x H' hd y => by
    obtain ⟨rfl, y⟩ := y
    obtain ⟨v, e, r⟩ := rp.get hd
    have q := y xs (SqT.of (e2.at _ _ (e1.at _ _ ha)))
    rw [e] at q
    cases q
    exact ⟨Hs', Grow.refl e2, Rep.same e1 _ _ r⟩
theorem ItOk.str {cl : Cl} {x : Str} {Hs Bq : Hp} (hz : x.cps.size ≤ szL) : ItOk cl (Its x) (x.cps.toList.map fun c => .str ⟨#[c]⟩) Hs Bq where
  len := by rw [List.length_map]; exact hz
  go := fun Hs' H e1 e2 e3 i hi => by
    rw [List.length_map] at hi
    exact hi
  stop := fun Hs' H e1 e2 e3 => by
    show x.cps.size ≤ _
    rw [List.length_map]
    exact Nat.le_refl _
  yld := fun Hs' H e1 e2 e3 i d v H' hd y => by
    obtain ⟨rfl, c, hc, rfl⟩ := y
    rw [List.getElem?_map, Array.getElem?_toList, hc] at hd
    cases hd
    exact ⟨Hs', Grow.refl e2, .str _⟩
theorem si_it (h : SQ X E ks md e g) : SI X E ks md tg e (gIter g) := by
  refine ⟨fun Hs H r σ W Q tk S P => ?_⟩
  have sb : Same E.b H := let ⟨_, s⟩ := S; s.eb
  unfold gIter at P
  have key : ∀ (wi : TI) (Q1 : VK), PI X tg e wi → (WEx X e σ H Q1 → wi σ H Q) → WEx X e σ H Q1 → WIx X tg e σ H Q := fun wi Q1 p f w => ⟨wi, p, f w⟩
  cases q : g r with
  | stuck => rw [q] at P; exact P.elim
  | exc x =>
    refine ⟨_, pi_list pe_we, ?_⟩
    refine h.run _ _ _ _ _ _ tk S ?_
    rw [q] at P ⊢
    exact P
  | ok d =>
    cases d with
    | lst ds =>
      refine ⟨_, pi_list pe_we, ?_⟩
      refine we_len (h.run _ _ _ _ _ _ tk S (PostQ.ofI P fun d v Hs1 H1 e1 g1 k1 P1 => ?_))
      rw [q] at e1
      cases e1
      obtain ⟨a, xs, rfl, rp, rt⟩ := k1.root (H := H1) (Hs' := Hs1)
      intro hl
      have e0 := rt Hs1 H1 (Same.refl _) g1.sub (bq_same (sb.trans g1.h))
      exact ⟨a, rfl, ⟨xs, SqL.of e0⟩, P1 _ Hs1 H1 (Grow.refl g1.sub) (ItOk.lst rp rt (hl.1 _ _ e0))⟩
    | tup ds =>
      refine ⟨_, pi_tup pe_we, ?_⟩
      refine we_len (h.run _ _ _ _ _ _ tk S (PostQ.ofI P fun d v Hs1 H1 e1 g1 k1 P1 => ?_))
      rw [q] at e1
      cases e1
      intro hl
      cases k1 with
      | val k =>
        cases k with
        | tup h1 h2 =>
          have e0 := g1.sub.at _ _ h1
          exact ⟨_, rfl, ⟨_, SqT.of e0⟩, P1 _ Hs1 H1 (Grow.refl g1.sub) (ItOk.tup h2 h1 (hl.2 _ _ e0))⟩
    | str x =>
      refine ⟨_, pi_str pe_we, ?_⟩
      refine h.run _ _ _ _ _ _ tk S (PostQ.ofI P fun d v Hs1 H1 e1 g1 k1 P1 => ?_)
      rw [q] at e1
      cases e1
      cases k1 with
      | val k =>
        cases k
        dsimp only [dIter] at P1
        split at P1
        · rename_i hz
          exact ⟨_, rfl, P1 _ Hs1 H1 (Grow.refl g1.sub) (ItOk.str hz)⟩
        · exact P1.elim
    | _ => rw [q] at P; exact P.elim
/-- lo, lo + 1, .. -/
def rangeD (lo : Int) (n : Nat) : List D := (List.range n).map fun (i : Nat) => D.int (lo + i)
theorem rangeD_len (lo : Int) (n : Nat) : (rangeD lo n).length = n := by simp [rangeD]
theorem ItOk.rng {cl : Cl} {lo : Int} {n : Nat} {Hs Bq : Hp} (hz : n ≤ szL) : ItOk cl (Itr lo n) (rangeD lo n) Hs Bq where
  len := by rw [rangeD_len]; exact hz
  go := fun Hs' H e1 e2 e3 i hi => by rw [rangeD_len] at hi; exact hi
  stop := fun Hs' H e1 e2 e3 => by rw [rangeD_len]; exact Nat.le_refl n
  yld := fun Hs' H e1 e2 e3 i d v H' hd y => by
    obtain ⟨rfl, rfl⟩ := y
    unfold rangeD at hd
    rw [List.getElem?_map] at hd
    by_cases hi : i < n
    · rw [List.getElem?_range hi] at hd
      cases hd
      exact ⟨Hs', Grow.refl e2, .int _⟩
    · rw [List.getElem?_eq_none (by simpa using hi)] at hd
      cases hd
def dRange1 : D → R (List D)
  | .int j => if j.toNat ≤ szL then .ok (rangeD 0 j.toNat) else .stuck
  | _ => .stuck
@[simp] def gRange1 (g : Sl → R D) : Sl → R (List D) := fun r => do
  let d ← g r
  dRange1 d
theorem Post.ofI {k : Kd} {Hs H : Hp} {Q : It → Hp → Prop} {W : WX0} {r : R D} {f : D → R (List D)} (P : PostI E md Hs H Q W (r >>= f)) {Q1 : VK}
    (h : ∀ d v Hs' H', r = .ok d → Grow Hs H Hs' H' → RK E.cl k H Hs' H' d v → PostI E md Hs' H' Q W (f d) → Q1 v H') : Post E.cl k Hs H Q1 W r := by
  cases r with
  | stuck => exact P
  | exc x => exact P
  | ok d => exact fun v Hs' H' g rk => h d v Hs' H' rfl g rk (PostI.grow (r := f d) P g)
theorem wa_one {σ : L2.St} {H : Hp} {Q : List V → Hp → Prop} (h : WEx X e σ H fun v H' => Q [v] H') (hs : starEach (e :: []) X.env = (false, eval e X.env) :: starEach [] X.env := by rfl) : WAx X [e] σ H Q := wa_of (pa_cons pe_we pa_nil hs) h
theorem si_range1 (hm : X.mg "range" = none) (h : SE X E ks .bor e g) (hg : Gl X "range" := by rfl) (hs : starEach [e] X.env = [(false, eval e X.env)] := by rfl) : SI X E ks md tg (.Call (.Name "range" p) [e] [] pos) (gRange1 g) := by
  refine ⟨fun Hs H r σ W Q tk S P => ?_⟩
  refine ⟨_, pi_rangeA1 hg hm pa_wa hs, ?_⟩
  refine wa_one (h.run _ _ _ _ _ _ tk S (Post.ofI P fun d v Hs1 H1 e1 g1 k1 P1 => ?_)) hs
  cases d <;> first | exact P1.elim | skip
  cases k1.rb.intInv
  dsimp only [dRange1] at P1
  split at P1
  · rename_i z
    exact ⟨_, rfl, P1 _ Hs1 H1 (Grow.refl g1.sub) (ItOk.rng z)⟩
  · exact P1.elim
end

def mapR {α β : Type} (f : α → R β) : List α → R (List β)
  | [] => .ok []
  | a :: l => do
    let b ← f a
    let bs ← mapR f l
    .ok (b :: bs)
theorem mapR_ok {α β : Type} {f : α → R β} : ∀ {l : List α} {bs : List β}, mapR f l = .ok bs → bs.length = l.length ∧ ∀ (i : Nat) a, l[i]? = some a → ∃ b, bs[i]? = some b ∧ f a = .ok b
  | [], bs, h => by
    cases h
    exact ⟨rfl, fun i a z => by simp at z⟩
  | a :: l, bs, h => by
    dsimp only [mapR] at h
    cases q : f a with
    | stuck => rw [q] at h; cases h
    | exc x => rw [q] at h; cases h
    | ok b =>
      rw [q] at h
      cases q2 : mapR f l with
      | stuck => rw [q2] at h; cases h
      | exc x => rw [q2] at h; cases h
      | ok bs' =>
        rw [q2] at h
        cases h
        obtain ⟨h1, h2⟩ := mapR_ok q2
        refine ⟨by simp [h1], fun i a' z => ?_⟩
        cases i with
        | zero =>
          simp at z
          subst z
          exact ⟨b, rfl, q⟩
        | succ i =>
          obtain ⟨b', e, e2⟩ := h2 i a' (by simpa using z)
          exact ⟨b', by simpa using e, e2⟩
def noX {α : Type} : R α → R α
  | .ok a => .ok a
  | _ => .stuck
theorem noX_ok {α : Type} {r : R α} {a : α} (h : noX r = .ok a) : r = .ok a := by
  cases r <;> first | cases h | skip
  rfl
@[simp] def wipeD (r : Sl) : List Nat → Sl
  | [] => r
  | v :: vs => (wipeD r vs).set v none
def wipeK (ks : List Kd) : List Nat → List Kd
  | [] => ks
  | v :: vs => (wipeK ks vs).set v .val
/-- one turn of a comprehension -/
def gTurn (t : Tg) (vs : List Nat) (tt : Sl → R Bool) (ge : Sl → R D) (r : Sl) (d : D) : R (Option D) := do
  let xs ← t.un d
  let b ← tt (setD (wipeD r vs) t.is xs)
  if b then (do
    let y ← ge (setD (wipeD r vs) t.is xs)
    .ok (some y)) else .ok none
def gComp (gi : Sl → R (List D)) (t : Tg) (vs : List Nat) (tt : Sl → R Bool) (ge : Sl → R D) : Sl → R D := fun r => do
  let ds ← gi r
  let os ← noX (mapR (gTurn t vs tt ge r) ds)
  .ok (.lst (os.filterMap id))

@[simp] def gYes : Sl → R Bool := fun _ => .ok true
def WPs (X : Cx) (ifs : List Expr) : TT := fun σ H Q => ∃ t, PTs X ifs t ∧ t σ H Q
theorem pts_wp {X : Cx} {ifs : List Expr} : PTs X ifs (WPs X ifs) := ⟨fun pins s σ H Q I ⟨t, p, h⟩ => p.run pins s σ H Q I h⟩
structure SP1 [md : Md] (X : Cx) (E : En) (ks : List Kd) (ifs : List Expr) (g : Sl → R Bool) : Prop where
  run : ∀ (Hs H : Hp) (r : Sl) (σ : L2.St) (W : WX) (Q : Bool → Hp → Prop), Takes X W → StRel E Hs H ks r σ → PostT E.cl Hs H Q (fun c dd H' => W c dd σ H') (g r) → WPs X ifs σ H Q
theorem sp_nil {X : Cx} {E : En} {ks : List Kd} : SP1 X E ks [] gYes := ⟨fun Hs H r σ W Q tk S P => ⟨_, pts_nil, P Hs H (Grow.refl S.sub)⟩⟩
theorem StRel.wipe {E : En} {Hs H : Hp} {r : Sl} {σ : L2.St} {ks : List Kd} (S : StRel E Hs H ks r σ) : ∀ (vs : List Nat), (∀ i ∈ vs, i < ks.length) → StRel E Hs H (wipeK ks vs) (wipeD r vs) (wipe σ vs) ∧ (wipeK ks vs).length = ks.length
  | [], _ => ⟨S, rfl⟩
  | v :: vs, h => by
    obtain ⟨q, l⟩ := StRel.wipe S vs fun i hi => h i (List.mem_cons_of_mem _ hi)
    have hv : v < (wipeK ks vs).length := by rw [l]; exact h v List.mem_cons_self
    refine ⟨q.wipe1 (k := (wipeK ks vs)[v]) (by simp [hv]) none, ?_⟩
    show ((wipeK ks vs).set v .val).length = _
    rw [List.length_set, l]
theorem wipe_set {σ : L2.St} {i : Nat} {x : V} : ∀ {vs : List Nat}, i ∈ vs → wipe (σ.set i (some x)) vs = wipe σ vs
  | [], h => by cases h
  | v :: vs, h => by
    by_cases hm : i ∈ vs
    · show (wipe (σ.set i (some x)) vs).set v none = (wipe σ vs).set v none
      rw [wipe_set hm]
    · have e : i = v := by
        rcases List.mem_cons.mp h with z | z
        · exact z
        · exact absurd z hm
      subst e
      have key : ∀ (vs : List Nat) (σ : L2.St), i ∉ vs → wipe (σ.set i (some x)) vs = (wipe σ vs).set i (some x) := by
        intro vs
        induction vs with
        | nil => intro σ _; rfl
        | cons w ws ih =>
          intro σ hn
          have h1 : i ≠ w := fun z => hn (z ▸ List.mem_cons_self)
          show (wipe (σ.set i (some x)) ws).set w none = ((wipe σ ws).set w none).set i (some x)
          rw [ih σ fun z => hn (List.mem_cons_of_mem _ z), List.set_comm _ _ h1]
      show (wipe (σ.set i (some x)) vs).set i none = (wipe σ vs).set i none
      rw [key vs σ hm, List.set_set]
theorem wipe_setV : ∀ {is : List Nat} {xs : List V} {σ : L2.St} {vs : List Nat}, (∀ i ∈ is, i ∈ vs) → wipe (setV σ is xs) vs = wipe σ vs
  | [], [], _, _, _ => rfl
  | [], _ :: _, _, _, _ => rfl
  | _ :: _, [], _, _, _ => rfl
  | i :: is, x :: xs, σ, vs, h => by
    show wipe (setV (σ.set i (some x)) is xs) vs = _
    rw [wipe_setV fun j hj => h j (List.mem_cons_of_mem _ hj), wipe_set (h i List.mem_cons_self)]
theorem wipe_idem {σ : L2.St} : ∀ (vs : List Nat), wipe (wipe σ vs) vs = wipe σ vs := fun vs => by
  have key : ∀ (ws : List Nat) (τ : L2.St), (∀ i ∈ ws, τ[i]? = some none ∨ τ[i]? = none) → wipe τ ws = τ := by
    intro ws
    induction ws with
    | nil => intro τ _; rfl
    | cons w ws ih =>
      intro τ h
      show (wipe τ ws).set w none = τ
      rw [ih τ fun i hi => h i (List.mem_cons_of_mem _ hi)]
      rcases h w List.mem_cons_self with e | e
      · obtain ⟨hw, e2⟩ := List.getElem?_eq_some_iff.mp e
        rw [← e2, List.set_getElem_self]
      · rw [List.set_eq_of_length_le (by simpa using e)]
  refine key vs _ fun i hi => ?_
  cases q : (wipe σ vs)[i]? with
  | none => exact .inr rfl
  | some o =>
    cases o with
    | none => exact .inl rfl
    | some x => exact absurd hi (wipe_some q).2
theorem filterMap_take {os : List (Option D)} {i : Nat} {o : Option D} (h : os[i]? = some o) : (os.take (i + 1)).filterMap id = (os.take i).filterMap id ++ o.toList := by
  rw [List.take_add_one, h, List.filterMap_append]
  cases o <;> rfl
def rdG (X : Cx) (scope : Scope) (tg : Expr) : TG := fun v σ H Q => ∀ (s : Shared) (H0 : Hp) (C : Addr) (cl : List (Str × Addr)) (fp : List Addr), WGx (X.blk s H0 scope (compEnvC scope cl C X.env) fp) tg v σ H Q
def rdT (X : Cx) (scope : Scope) (ifs : List Expr) : TT := fun σ H Q => ∀ (s : Shared) (H0 : Hp) (C : Addr) (cl : List (Str × Addr)) (fp : List Addr), WPs (X.blk s H0 scope (compEnvC scope cl C X.env) fp) ifs σ H Q
def rdE (X : Cx) (scope : Scope) (elt : Expr) : TE := fun σ H Q => ∀ (s : Shared) (H0 : Hp) (C : Addr) (cl : List (Str × Addr)) (fp : List Addr), WEx (X.blk s H0 scope (compEnvC scope cl C X.env) fp) elt σ H Q
theorem pg_rd {X : Cx} {scope : Scope} {tg : Expr} (s : Shared) (H : Hp) (C : Addr) (cl : List (Str × Addr)) (fp : List Addr) : PG (X.blk s H scope (compEnvC scope cl C X.env) fp) tg (rdG X scope tg) :=
  ⟨fun pins s' σ H' v u Q' I r h => pg_wg.run pins s' σ H' v u Q' I r (h s H C cl fp)⟩
theorem pts_rd {X : Cx} {scope : Scope} {ifs : List Expr} (s : Shared) (H : Hp) (C : Addr) (cl : List (Str × Addr)) (fp : List Addr) : PTs (X.blk s H scope (compEnvC scope cl C X.env) fp) ifs (rdT X scope ifs) :=
  ⟨fun pins s' σ H' Q' I h => pts_wp.run pins s' σ H' Q' I (h s H C cl fp)⟩
theorem pe_rd {X : Cx} {scope : Scope} {elt : Expr} (s : Shared) (H : Hp) (C : Addr) (cl : List (Str × Addr)) (fp : List Addr) : PE (X.blk s H scope (compEnvC scope cl C X.env) fp) elt (rdE X scope elt) :=
  ⟨fun pins s' σ H' Q' I h => h s H C cl fp pins s' I⟩
/-- the reading of a comprehension -/
theorem comp_read {X : Cx} {E : En} {ks : List Kd} {elt tg iter : Expr} {ifs : List Expr} {scope : Scope} {vs : List Nat} {t : Tg} {gi : Sl → R (List D)} {tt : Sl → R Bool} {ge : Sl → R D}
    (hi : SI X E ks false tg iter gi) (hv : ∀ i ∈ vs, i < ks.length) (hm : ∀ i ∈ t.is, i ∈ vs)
    (hg : ∀ (s : Shared) (H : Hp) (C : Addr) (cl : List (Str × Addr)) (fp : List Addr), SG (X.blk s H scope (compEnvC scope cl C X.env) fp) tg t)
    (ht : ∀ (s : Shared) (H : Hp) (C : Addr) (cl : List (Str × Addr)) (fp : List Addr), SP1 (X.blk s H scope (compEnvC scope cl C X.env) fp) E (setK (wipeK ks vs) t.is) ifs tt)
    (he : ∀ (s : Shared) (H : Hp) (C : Addr) (cl : List (Str × Addr)) (fp : List Addr), SE (X.blk s H scope (compEnvC scope cl C X.env) fp) E (setK (wipeK ks vs) t.is) .val elt ge)
    {Hs H : Hp} {r : Sl} {σ : L2.St} {W : WX} {Q : VK} (tk : Takes X W) (S : StRel E Hs H ks r σ) (P : Post E.cl (.own none) Hs H Q (fun c dd H' => W c dd σ H') (gComp gi t vs tt ge r)) :
    tLc (WIx X tg iter) (rdG X scope tg) (rdT X scope ifs) (rdE X scope elt) vs σ H Q := by
  refine hi.run _ _ _ _ _ _ tk S ?_
  unfold gComp at P
  cases q : gi r with
  | stuck => rw [q] at P; exact P
  | exc x => rw [q] at P; exact P
  | ok ds =>
    rw [q] at P
    intro J Hs1 H1 g1 J1 D hD
    have P1 := Post.grow (r := noX (mapR (gTurn t vs tt ge r) ds) >>= fun os => R.ok (VL.D.lst (os.filterMap id))) P g1
    cases q2 : noX (mapR (gTurn t vs tt ge r) ds) with
    | stuck => rw [q2] at P1; exact P1.elim
    | exc x =>
      cases q3 : mapR (gTurn t vs tt ge r) ds <;> rw [q3] at q2 <;> cases q2
    | ok os =>
      rw [q2] at P1
      obtain ⟨hlen, hturn⟩ := mapR_ok (noX_ok q2)
      have P1' : Post E.cl (.own none) Hs1 H1 Q (fun c dd H' => W c dd σ H') (R.ok (VL.D.lst (os.filterMap id))) := P1
      have S1 := S.grow g1
      refine ⟨fun i m H' => m = ds.length - i ∧ i ≤ ds.length ∧ ∃ Hs' acc, Grow Hs1 H1 Hs' H' ∧ H' D = some (.lst acc) ∧ Hs' D = none ∧ RepL E.cl Hs' ((os.take i).filterMap id) acc ∧ acc.length ≤ i,
        ⟨ds.length, by simp, Nat.zero_le _, Hs1, [], Grow.fresh g1.sub hD, upd_same, g1.sub.free hD, .nil, Nat.le_refl _⟩, ?_⟩
      rintro i m H' ⟨rfl, hi', Hs', acc, g2, eD, nD, rp, hacc⟩
      have sq : Same (bq E false H1) H' := g2.h
      by_cases hlt : i < ds.length
      · refine .inr ⟨J1.go Hs' H' g2.s g2.sub sq i hlt, fun H2 => ∃ Hs2 acc2, Grow Hs1 H1 Hs2 H2 ∧ H2 D = some (.lst acc2) ∧ Hs2 D = none ∧ RepL E.cl Hs2 ((os.take (i + 1)).filterMap id) acc2 ∧ acc2.length ≤ i + 1, ?_, ?_⟩
        · rintro H2 ⟨Hs2, acc2, z1, z2, z3, z4, z5⟩
          exact ⟨ds.length - (i + 1), by omega, rfl, hlt, Hs2, acc2, z1, z2, z3, z4, z5⟩
        · intro x H2 y s0 H0 C cl fp
          obtain ⟨d, hd⟩ : ∃ d, ds[i]? = some d := ⟨ds[i], by simp [hlt]⟩
          obtain ⟨Hs2, g3, rx⟩ := J1.yld Hs' H' g2.s g2.sub sq i d x H2 hd y
          obtain ⟨o, ho, hf⟩ := hturn i d hd
          unfold gTurn at hf
          cases q4 : t.un d with
          | stuck => rw [q4] at hf; cases hf
          | exc x => rw [q4] at hf; cases hf
          | ok xs =>
            rw [q4] at hf
            refine (hg s0 H0 C cl fp).run E.cl Hs2 H2 _ d x xs _ g3.sub rx q4 fun ys ry => ⟨by rw [wipe_setV hm, wipe_idem], fun s1 H01 C1 cl1 fp1 => ?_⟩
            have g23 := g2.trans g3
            obtain ⟨S2, hl2⟩ := StRel.wipe (S1.grow g23) vs hv
            have S3 : StRel E Hs2 H2 (setK (wipeK ks vs) t.is) (setD (wipeD r vs) t.is xs) (setV (wipe σ vs) t.is ys) :=
              StRel.puts S2 (fun j hj => by rw [hl2]; exact hv j (hm j hj)) (Tg.un_len q4) ry
            have eD2 : H2 D = some (.lst acc) := g3.h.at _ _ eD
            have nD2 : ∀ {Hsx Hx : Hp}, Grow Hs' H' Hsx Hx → Hsx D = none := fun {Hsx Hx} gx => by
              cases qq : Hsx D with
              | none => rfl
              | some u =>
                rcases gx.n D (by rw [qq]; simp) with z | z
                · exact absurd nD z
                · rw [eD] at z; cases z
            refine (ht s1 H01 C1 cl1 fp1).run _ _ _ _ (fun _ _ _ _ => False) _ takesF S3 ?_
            have hf' : (tt (setD (wipeD r vs) t.is xs) >>= fun b => if b then (ge (setD (wipeD r vs) t.is xs) >>= fun y => R.ok (some y)) else R.ok none) = R.ok o := hf
            cases q5 : tt (setD (wipeD r vs) t.is xs) with
            | stuck => rw [q5] at hf'; cases hf'
            | exc x => rw [q5] at hf'; cases hf'
            | ok b =>
              rw [q5] at hf'
              intro Hs3 H3 g4
              cases b with
              | false =>
                have e0 : (R.ok none : R (Option VL.D)) = R.ok o := hf'
                cases e0
                refine iteF ⟨Hs3, acc, g23.trans g4, g4.h.at _ _ eD2, nD2 (g3.trans g4), ?_, by omega⟩
                rw [filterMap_take ho]
                simpa using RepL.same (g3.trans g4).s _ _ rp
              | true =>
                refine iteT fun s2 H02 C2 cl2 fp2 => ?_
                refine (he s2 H02 C2 cl2 fp2).run _ _ _ _ (fun _ _ _ _ => False) _ takesF (S3.grow g4) ?_
                have hf2 : (ge (setD (wipeD r vs) t.is xs) >>= fun y => R.ok (some y)) = R.ok o := hf'
                cases q6 : ge (setD (wipeD r vs) t.is xs) with
                | stuck => rw [q6] at hf2; cases hf2
                | exc x => rw [q6] at hf2; cases hf2
                | ok y =>
                  rw [q6] at hf2
                  have e0 : (R.ok (some y) : R (Option VL.D)) = R.ok o := hf2
                  cases e0
                  intro v Hs4 H4 g5 k5
                  have g35 := (g3.trans g4).trans g5
                  have hD4 : H4 D = some (.lst acc) := g35.h.at _ _ eD
                  have hN4 := nD2 g35
                  have g25 := g2.trans g35
                  have hz : acc.length < sizeLine := by
                    rw [szL_eq]
                    have := J1.len
                    omega
                  refine ⟨acc, hD4, hz, Hs4, acc ++ [v], ⟨g25.s, ⟨fun b u e nt => ?_⟩, g25.n, ⟨fun b u e nt => ?_⟩, fun P z => tab_mut hD4 P (g25.t P z)⟩, upd_same, hN4, ?_, by simp; omega⟩
                  · rw [upd_ne (ne_of_none e hD)] at nt ⊢
                    exact g25.h.k _ _ e nt
                  · rw [upd_ne (ne_of_none e hN4)] at nt ⊢
                    exact g25.sub.k _ _ e nt
                  · rw [filterMap_take ho]
                    exact (RepL.same g35.s _ _ rp).app (.cons k5.rep .nil)
      · have e : i = ds.length := by omega
        subst e
        refine .inl ⟨J1.stop Hs' H' g2.s g2.sub sq, ?_⟩
        rw [← hlen, List.take_length] at rp
        refine P1' (.ref D) Hs' H' g2 ⟨[D], .ownL ⟨hD, fun _ z => nomatch z⟩ eD rp, by simp, fun a ha => ?_⟩
        have q : a = D := by simpa using ha
        subst q
        exact ⟨nD, hD⟩
theorem se_comp {X : Cx} {E : En} {ks : List Kd} {elt tg iter : Expr} {ifs : List Expr} {scope : Scope} {pos : Pos} {t : Tg} {gi : Sl → R (List D)} {tt : Sl → R Bool} {ge : Sl → R D}
    (own : List (Str × Nat)) (hc : X.calm = true) (hN : X.N.Nodup) (hi : SI X E ks false tg iter gi) (ok : BlkOk X.N X.env.scope scope own) (hv : ∀ i ∈ own.map (·.2), i < ks.length) (hm : ∀ i ∈ t.is, i ∈ own.map (·.2))
    (hg : ∀ (s : Shared) (H : Hp) (C : Addr) (cl : List (Str × Addr)) (fp : List Addr), SG (X.blk s H scope (compEnvC scope cl C X.env) fp) tg t)
    (ht : ∀ (s : Shared) (H : Hp) (C : Addr) (cl : List (Str × Addr)) (fp : List Addr), SP1 (X.blk s H scope (compEnvC scope cl C X.env) fp) E (setK (wipeK ks (own.map (·.2))) t.is) ifs tt)
    (he : ∀ (s : Shared) (H : Hp) (C : Addr) (cl : List (Str × Addr)) (fp : List Addr), SE (X.blk s H scope (compEnvC scope cl C X.env) fp) E (setK (wipeK ks (own.map (·.2))) t.is) .val elt ge)
    (hs : ∀ x, foldedSetIterable iter X.env x = pure x := by intro _; rfl) : SE X E ks (.own none) (.ListComp elt [⟨tg, iter, ifs, 0⟩] scope pos) (gComp gi t (own.map (·.2)) tt ge) := by
  refine ⟨fun Hs H r σ W Q tk S P => ?_⟩
  exact we_of (pe_lc hc hN pi_wi ok pg_rd pts_rd pe_rd hs) (comp_read hi hv hm hg ht he tk S P)
end VL
end

noncomputable section
namespace VL
open PySem PySem.Spec PyProof.Rows L2
variable {md : Md}

section
variable {cl : Cl}
mutual
theorem ORep.anyB {N : Addr → Prop} {B B' Hs H : Hp} : ∀ (k : Kd) (d : D) (v : V) (A : List Addr), k.fine = true → ORep cl N B Hs H k d v A → ORep cl N B' Hs H k d v A
  | .val, _, _, _, _, h => by
    cases h with
    | val h1 => exact .val h1
  | .bor, _, _, _, z, _ => by cases z
  | .own n, _, _, _, _, h => by
    cases h with
    | ownL h0 h1 h2 => exact .ownL h0 h1 h2
    | ownK h0 h1 h2 => exact .ownK h0 h1 h2
    | ownV h0 h1 => exact .ownV h0 h1
  | .obj n ks, _, _, _, z, h => by
    cases h with
    | obj h0 h1 h2 h3 => exact .obj h0 h1 h2 (OFs.anyB ks _ _ _ (by simpa [Kd.fine] using z) h3)
  | .lls n k, _, _, _, z, h => by
    cases h with
    | lls h0 h1 h2 => exact .lls h0 h1 (OLs.imp (fun _ => True) (fun _ _ _ => trivial) (fun _ _ _ => trivial) (fun d v A _ o => ORep.anyB k d v A z o) trivial h2)
    | llT h0 h1 h2 => exact .llT h0 h1 (OLs.imp (fun _ => True) (fun _ _ _ => trivial) (fun _ _ _ => trivial) (fun d v A _ o => ORep.anyB k d v A z o) trivial h2)
    | llV h0 h1 => exact .llV h0 h1
theorem OFs.anyB {N : Addr → Prop} {B B' Hs H : Hp} : ∀ (ks : List (Str × Kd)) (ds : List (Str × D)) (xs : List (Str × V)) (A : List Addr), Kd.fine.fines ks = true → OFs cl N B Hs H ks ds xs A → OFs cl N B' Hs H ks ds xs A
  | [], _, _, _, _, h => by cases h; exact .nil
  | (f, k) :: ks, _, _, _, z, h => by
    have z' : k.fine = true ∧ Kd.fine.fines ks = true := by simpa [Kd.fine.fines] using z
    cases h with
    | cons h1 h2 => exact .cons (ORep.anyB k _ _ _ z'.1 h1) (OFs.anyB ks _ _ _ z'.2 h2)
end
end

section
variable {E : En} {Hs H Hs' H' : Hp} {ks : List Kd} {r : Sl} {σ : L2.St}
theorem RK.new (S : StRel E Hs H ks r σ) (g : Grow Hs H Hs' H') {k : Kd} {d : D} {v : V} (f : k.fine = true) (rk : RK E.cl k H Hs' H' d v) :
    ∃ A, ORep E.cl E.N E.b Hs' H' k d v A ∧ A.Nodup ∧ (∀ a ∈ A, Hs' a = none ∧ E.b a = none ∧ H a = none) := by
  obtain ⟨As, S⟩ := S
  obtain ⟨A, o, nd, z⟩ := rk
  exact ⟨A, ORep.anyB k _ _ _ f (ORep.mono (Same.refl _) (Same.refl _) (fun a q => S.dom a q) k _ _ _ (fun _ _ => rfl) o), nd, fun a ha => ⟨(z a ha).1, S.eb.free (z a ha).2, (z a ha).2⟩⟩
theorem nodup_mid {α : Type} {pre A post A' : List α} (h : (pre ++ (A ++ post)).Nodup) (hA : A'.Nodup) (d : ∀ a ∈ A', a ∉ pre ++ post) : (pre ++ (A' ++ post)).Nodup := by
  have h1 : (pre ++ post).Nodup := h.sublist (List.Sublist.append (List.Sublist.refl _) (List.sublist_append_right _ _))
  have p : (pre ++ (A' ++ post)).Perm (A' ++ (pre ++ post)) := by
    rw [← List.append_assoc, ← List.append_assoc]
    exact List.Perm.append_right _ List.perm_append_comm
  exact p.nodup_iff.mpr (List.nodup_append.mpr ⟨hA, h1, fun a ha b hb z => d a ha (z ▸ hb)⟩)
theorem StRel.putK {i : Nat} {k0 k : Kd} {d : D} {v : V} (S : StRel E Hs H ks r σ) (g : Grow Hs H Hs' H') (hk : ks[i]? = some k0) (f : k.fine = true) (rk : RK E.cl k H Hs' H' d v) : StRel E Hs' H' (ks.set i k) (r.set i (some d)) (σ.set i (some v)) := by
  obtain ⟨A', o, nd, z⟩ := RK.new S g f rk
  obtain ⟨As, S0⟩ := S
  have hh := S0.sl.here
  have S1 := S0.grow g
  obtain ⟨pre, A, post, e, _, q, _, _⟩ := S1.sl.at_ i hk
  have d1 : ∀ a ∈ A', a ∉ pre ++ post := fun a ha hm => by
    have : a ∈ As := by
      rw [e]
      rcases List.mem_append.mp hm with w | w
      · exact List.mem_append_left _ w
      · exact List.mem_append_right _ (List.mem_append_right _ w)
    obtain ⟨u, hu, _⟩ := hh a this
    rw [(z a ha).2.2] at hu
    cases hu
  refine ⟨_, q k d v A' o, nodup_mid (e ▸ S1.nd) nd d1, fun a ha => ?_, S1.es, S1.sub, S1.eb, S1.new, S1.dom, S1.tb⟩
  rcases List.mem_append.mp ha with w | w
  · exact S1.dis a (by rw [e]; exact List.mem_append_left _ w)
  · rcases List.mem_append.mp w with w | w
    · exact ⟨(z a w).1, (z a w).2.1⟩
    · exact S1.dis a (by rw [e]; exact List.mem_append_right _ (List.mem_append_right _ w))
theorem StRel.push {k : Kd} {d : D} {v : V} (S : StRel E Hs H ks r σ) (g : Grow Hs H Hs' H') (f : k.fine = true) (rk : RK E.cl k H Hs' H' d v) : StRel E Hs' H' (k :: ks) (some d :: r) (some v :: σ) := by
  obtain ⟨A', o, nd, z⟩ := RK.new S g f rk
  obtain ⟨As, S0⟩ := S
  have hh := S0.sl.here
  have S1 := S0.grow g
  have d1 : ∀ a ∈ A', a ∉ As := fun a ha hm => by
    obtain ⟨u, hu, _⟩ := hh a hm
    rw [(z a ha).2.2] at hu
    cases hu
  refine ⟨_, .cons o S1.sl, List.nodup_append.mpr ⟨nd, S1.nd, fun a ha b hb z => d1 a ha (z ▸ hb)⟩, fun a ha => ?_, S1.es, S1.sub, S1.eb, S1.new, S1.dom, S1.tb⟩
  rcases List.mem_append.mp ha with w | w
  · exact ⟨(z a w).1, (z a w).2.1⟩
  · exact S1.dis a w
/-- the value of a slot leaves it -/
theorem StRel.take {i : Nat} {k : Kd} {d : D} (S : StRel E Hs H ks r σ) (hk : ks[i]? = some k) (hd : r[i]? = some (some d)) : ∃ v, σ[i]? = some (some v) ∧ StRel E Hs H (k :: ks) (some d :: r.set i none) (some v :: σ) := by
  obtain ⟨As, S⟩ := S
  obtain ⟨pre, A, post, e, q1, _, q2, _⟩ := S.sl.at_ i hk
  obtain ⟨v, ev, o⟩ := q1 d hd
  refine ⟨v, ev, _, .cons o (by
    have z := q2 k (some v)
    have e1 : ks.set i k = ks := by
      obtain ⟨h, e2⟩ := List.getElem?_eq_some_iff.mp hk
      rw [← e2, List.set_getElem_self]
    have e3 : σ.set i (some v) = σ := by
      obtain ⟨h, e2⟩ := List.getElem?_eq_some_iff.mp ev
      rw [← e2, List.set_getElem_self]
    rw [e1, e3] at z
    exact z), ?_, fun a ha => S.dis a ?_, S.es, S.sub, S.eb, S.new, S.dom, S.tb⟩
  · have p : (A ++ (pre ++ post)).Perm As := by
      rw [e, ← List.append_assoc, ← List.append_assoc]
      exact List.Perm.append_right _ List.perm_append_comm
    exact p.nodup_iff.mpr S.nd
  · rw [e]
    rcases List.mem_append.mp ha with w | w
    · exact List.mem_append_right _ (List.mem_append_left _ w)
    · rcases List.mem_append.mp w with w | w
      · exact List.mem_append_left _ w
      · exact List.mem_append_right _ (List.mem_append_right _ w)
/-- an owned list is changed where it lies -/
theorem StRel.mutL {i : Nat} {n : Option Addr} {ds : List D} (S : StRel E Hs H ks r σ) (hk : ks[i]? = some (.own n)) (hd : r[i]? = some (some (.lst ds))) :
    ∃ a xs, σ[i]? = some (some (.ref a)) ∧ H a = some (.lst xs) ∧ RepL E.cl Hs ds xs ∧ ∀ ds' xs', RepL E.cl Hs ds' xs' → StRel E Hs (upd H a (.lst xs')) ks (r.set i (some (.lst ds'))) σ := by
  obtain ⟨As, S⟩ := S
  obtain ⟨pre, A, post, e, q1, _, _, q3⟩ := S.sl.at_ i hk
  obtain ⟨v, ev, o⟩ := q1 _ hd
  cases o with
  | ownV h0 h1 => cases h0
  | ownL h0 h1 h2 =>
    rename_i a xs
    refine ⟨a, xs, ev, h1, h2, fun ds' xs' rp => ?_⟩
    have ha : a ∈ As := by rw [e]; exact List.mem_append_right _ (List.mem_append_left _ (by simp))
    have nd := S.nd
    rw [e] at nd
    have hn : ∀ b ∈ pre ++ post, b ≠ a := fun b hb z => by
      subst z
      rcases List.mem_append.mp hb with w | w
      · exact (List.nodup_append.mp nd).2.2 _ w _ (List.mem_append_left _ (by simp)) rfl
      · exact (List.nodup_append.mp (List.nodup_append.mp nd).2.1).2.2 _ (by simp) _ w rfl
    have z := q3 Hs (upd H a (.lst xs')) (Same.refl _) (fun b hb => upd_ne (hn b hb)) (.own n) (.lst ds') (.ref a) [a] (.ownL h0 upd_same rp)
    have e1 : ks.set i (.own n) = ks := by
      obtain ⟨h, e2⟩ := List.getElem?_eq_some_iff.mp hk
      rw [← e2, List.set_getElem_self]
    have e3 : σ.set i (some (.ref a)) = σ := by
      obtain ⟨h, e2⟩ := List.getElem?_eq_some_iff.mp ev
      rw [← e2, List.set_getElem_self]
    rw [e1, e3] at z
    have dz := S.dis a ha
    refine ⟨_, z, nd, fun b hb => S.dis b (by rw [e]; exact hb), S.es, ⟨fun b u q nt => ?_⟩, ⟨fun b u q nt => ?_⟩, S.new, fun b q => ?_, fun P z => tab_mut h1 P (S.tb P z)⟩
    · have : b ≠ a := fun w => by rw [w, dz.1] at q; cases q
      rw [upd_ne this] at nt ⊢
      exact S.sub.k _ _ q nt
    · have : b ≠ a := fun w => by rw [w, dz.2] at q; cases q
      rw [upd_ne this] at nt ⊢
      exact S.eb.k _ _ q nt
    · have : b ≠ a := fun w => by rw [w, upd_same] at q; cases q
      rw [upd_ne this] at q
      exact S.dom _ q
/-- an owned value is frozen where it lies -/
theorem StRel.freeze {i : Nat} {k : Kd} (S : StRel E Hs H ks r σ) (hk : ks[i]? = some k) (hf : k = .own none) : ∃ Hs2, StRel E Hs2 H (ks.set i .val) r σ := by
  subst hf
  obtain ⟨As, S⟩ := S
  cases hr : r[i]? with
  | none =>
    have l := S.sl.len
    have hi : i < ks.length := (List.getElem?_eq_some_iff.mp hk).1
    have : r.length ≤ i := List.getElem?_eq_none_iff.mp hr
    omega
  | some o =>
    obtain ⟨pre, A, post, e, q1, q2, q4, q3⟩ := S.sl.at_ i hk
    have e5 : r.set i o = r := by
      obtain ⟨h, e2⟩ := List.getElem?_eq_some_iff.mp hr
      rw [← e2, List.set_getElem_self]
    cases o with
    | none =>
      have l := S.sl.len
      have hi : i < σ.length := by rw [l.2]; exact (List.getElem?_eq_some_iff.mp hk).1
      have z := q4 .val σ[i]
      rw [e5, List.set_getElem_self] at z
      have sub : (pre ++ post).Sublist As := by
        rw [e]
        exact List.Sublist.append (List.Sublist.refl _) (List.sublist_append_right _ _)
      exact ⟨Hs, _, z, S.nd.sublist sub, fun a ha => S.dis a (sub.subset ha), S.es, S.sub, S.eb, S.new, S.dom, S.tb⟩
    | some d =>
      obtain ⟨v, ev, o⟩ := q1 d hr
      have e3 : σ.set i (some v) = σ := by
        obtain ⟨h, e2⟩ := List.getElem?_eq_some_iff.mp ev
        rw [← e2, List.set_getElem_self]
      have nd := S.nd
      rw [e] at nd
      have nA : ∀ a ∈ A, E.h a = none := by
        cases o with
        | ownL h0 h1 h2 => intro a ha; simp at ha; subst ha; exact h0.1
        | ownK h0 h1 h2 => intro a ha; simp at ha; subst ha; exact h0.1
        | ownV h0 h1 => intro a ha; cases ha
      have inA : ∀ a ∈ A, a ∈ As := fun a ha => by rw [e]; exact List.mem_append_right _ (List.mem_append_left _ ha)
      have pS : Same Hs (plus Hs H A) := plus_same fun a ha => (S.dis a (inA a ha)).1
      have rp : Rep E.cl (plus Hs H A) d v := ORep.freeze pS _ _ _ _ rfl (fun a ha => by unfold plus; rw [if_pos ha]) o
      have z := q3 (plus Hs H A) H pS (fun _ _ => rfl) .val d v [] (.val rp)
      rw [e5, e3] at z
      have sub : (pre ++ ([] ++ post)).Sublist As := by
        rw [e]
        exact List.Sublist.append (List.Sublist.refl _) (by rw [List.nil_append]; exact List.sublist_append_right _ _)
      refine ⟨plus Hs H A, _, z, S.nd.sublist sub, fun a ha => ⟨?_, (S.dis a (sub.subset ha)).2⟩, S.es.trans pS, plus_sub S.sub, S.eb, fun a q => ?_, S.dom, S.tb⟩
      · have hn : a ∉ A := fun w => by
          rcases List.mem_append.mp ha with u | u
          · exact (List.nodup_append.mp nd).2.2 _ u _ (List.mem_append_left _ w) rfl
          · exact (List.nodup_append.mp (List.nodup_append.mp nd).2.1).2.2 _ w _ (by simpa using u) rfl
        unfold plus
        rw [if_neg hn]
        exact (S.dis a (sub.subset ha)).1
      · unfold plus at q
        split at q
        · rename_i w
          exact .inr (nA a w)
        · exact S.new a q
/-- another bound of what is stable -/
def En.at_ (E : En) (s : Hp) : En := { E with s := s }
theorem Slots.env {E E' : En} (h1 : E'.cl = E.cl) (h2 : E'.b = E.b) (h3 : E'.h = E.h) : ∀ {ks : List Kd} {r : Sl} {σ : L2.St} {As : List Addr}, Slots E Hs H ks r σ As → Slots E' Hs H ks r σ As
  | _, _, _, _, .nil => .nil
  | _, _, _, _, .skip h => .skip (Slots.env h1 h2 h3 h)
  | _, _, _, _, .cons o h => .cons (by unfold En.N at *; rw [h1, h2, h3]; exact o) (Slots.env h1 h2 h3 h)
theorem StRel.down (S : StRel E Hs H ks r σ) : StRel (E.at_ Hs) Hs H ks r σ := by
  obtain ⟨As, S⟩ := S
  exact ⟨As, Slots.env (E := E) (E' := E.at_ Hs) rfl rfl rfl S.sl, S.nd, S.dis, Same.refl _, S.sub, S.eb, fun a z => .inl z, S.dom, S.tb⟩
theorem StRel.up {Hs1 : Hp} (es : Same E.s Hs1) (nw : ∀ a, Hs1 a ≠ none → E.s a ≠ none ∨ E.h a = none) (S : StRel (E.at_ Hs1) Hs H ks r σ) : StRel E Hs H ks r σ := by
  obtain ⟨As, S⟩ := S
  refine ⟨As, Slots.env (E := E.at_ Hs1) (E' := E) rfl rfl rfl S.sl, S.nd, S.dis, es.trans S.es, S.sub, S.eb, fun a z => ?_, S.dom, S.tb⟩
  rcases S.new a z with q | q
  · exact nw a q
  · exact .inr q
theorem StRel.facts (S : StRel E Hs H ks r σ) : Same E.s Hs ∧ Same E.b H ∧ (∀ a, Hs a ≠ none → E.s a ≠ none ∨ E.h a = none) ∧ ∀ P, LamX.TabS E.h P lamQ → LamX.TabS H P lamQ := let ⟨_, s⟩ := S; ⟨s.es, s.eb, s.new, s.tb⟩
end

def PostS (E : En) (ks : List Kd) (kr : Kd) (fin : List Kd → Prop) (W : WX) (Dn : Ends) : O → Prop
  | .stuck => False
  | .nx r => ∀ Hs H σ, StRel E Hs H ks r σ → Dn.nx σ H
  | .rt d r => ∀ Hs H σ v ks2, fin ks2 → StRel E Hs H (kr :: ks2) (some d :: r) (some v :: σ) → Dn.rt v H
  | .exc x r => ∀ Hs H σ c dd ks2, fin ks2 → StRel E Hs H ks2 r σ → XRep E.cl Hs H x c dd → W c dd σ H
/-- .. kr what a return hands out, fin what is asked of the slots at the def's end -/
structure SS [md : Md] (X : Cx) (E : En) (kr : Kd) (fin : List Kd → Prop) (ks : List Kd) (st : Stmt) (m : Sl → O) (ks' : List Kd) : Prop where
  run : ∀ (Hs H : Hp) (r : Sl) (σ : L2.St) (W : WX) (Dn : Ends), Takes X W → StRel E Hs H ks r σ → PostS E ks' kr fin W Dn (m r) → WSx X st Dn σ H
structure SB [md : Md] (X : Cx) (E : En) (kr : Kd) (fin : List Kd → Prop) (ks : List Kd) (st : List Stmt) (m : Sl → O) (ks' : List Kd) : Prop where
  run : ∀ (Hs H : Hp) (r : Sl) (σ : L2.St) (W : WX) (Dn : Ends), Takes X W → StRel E Hs H ks r σ → PostS E ks' kr fin W Dn (m r) → WSs X st Dn σ H
@[simp] def mNil : Sl → O := .nx
@[simp] def mSeq (m1 m2 : Sl → O) : Sl → O := fun r => match m1 r with
  | .nx r' => m2 r'
  | o => o
/-- behind an expression -/
@[simp] def onR {α : Type} (x : R α) (r : Sl) (k : α → O) : O := match x with
  | .ok a => k a
  | .exc x => .exc x r
  | .stuck => .stuck
section
variable {X : Cx} {E : En} {kr : Kd} {fin : List Kd → Prop} {ks ks' ks1 ks2 : List Kd} {st : Stmt} {sts : List Stmt} {m m1 m2 : Sl → O} {e : Expr} {g : Sl → R D} {pos : Pos}
theorem sb_nil : SB X E kr fin ks [] mNil ks := ⟨fun Hs H r σ W Dn tk S P => wss_of pss_nil (P Hs H σ S)⟩
theorem sb_cons (h1 : SS X E kr fin ks st m1 ks1) (h2 : SB X E kr fin ks1 sts m2 ks2) : SB X E kr fin ks (st :: sts) (mSeq m1 m2) ks2 := by
  refine ⟨fun Hs H r σ W Dn tk S P => ?_⟩
  refine wss_of (pss_cons ps_ws pss_ws) ?_
  refine h1.run _ _ _ _ _ _ tk S ?_
  unfold mSeq at P
  cases q : m1 r with
  | stuck => rw [q] at P; exact P
  | nx r' =>
    rw [q] at P
    exact fun Hs' H' σ' S' => h2.run _ _ _ _ _ _ tk S' P
  | rt d r' => rw [q] at P; exact P
  | exc x r' => rw [q] at P; exact P
/-- what an expression asks within a statement -/
theorem Post.ofS {k : Kd} {Hs H : Hp} {r : Sl} {σ : L2.St} {W : WX} {Dn : Ends} {x : R D} {kk : D → O} {Q1 : VK} (hf : fin ks) (S : StRel E Hs H ks r σ) (P : PostS E ks' kr fin W Dn (onR x r kk))
    (h : ∀ d v Hs' H', x = .ok d → Grow Hs H Hs' H' → RK E.cl k H Hs' H' d v → PostS E ks' kr fin W Dn (kk d) → Q1 v H') : Post E.cl k Hs H Q1 (fun c dd H' => W c dd σ H') x := by
  cases x with
  | stuck => exact P
  | exc x => exact fun c dd Hs' H' g z => P Hs' H' σ c dd ks hf (S.grow g) z
  | ok d => exact fun v Hs' H' g rk => h d v Hs' H' rfl g rk P
@[simp] def mSet (i : Nat) (g : Sl → R D) : Sl → O := fun r => onR (g r) r fun d => .nx (r.set i (some d))
/-- x = e -/
theorem ss_set {i : Nat} {k k0 : Kd} {x : Str} {pos' : Pos} (hN : X.N.Nodup) (he : SE X E ks k e g) (hf : fin ks := by trivial) (hk : ks[i]? = some k0 := by rfl) (fk : k.fine = true := by rfl) (hi : X.N[i]? = some x := by rfl) (hx : Loc X.env.scope x := by first | exact Or.inl rfl | exact Or.inr rfl)
    (hs : swapsWith e (some (.Name x pos')) pos.line X.env = pure false := by rfl) (hfn : X.fn x = true ∨ X.env.scope.names.lookup x = some .local := by first | exact .inl rfl | exact .inr rfl | assumption) :
    SS X E kr fin ks (.Assign [.Name x pos'] e pos) (mSet i g) (ks.set i k) := by
  refine ⟨fun Hs H r σ W Dn tk S P => ?_⟩
  refine ws_of (ps_set hN hi hx pe_we hs hfn) ?_
  exact he.run _ _ _ _ _ _ tk S (Post.ofS hf S P fun d v Hs' H' e1 g1 k1 P1 => P1 Hs' H' _ (S.putK g1 hk fk k1))
/-- x = [..] on one line, x a local -/
theorem ss_setLc {i : Nat} {k0 : Kd} {y : Str} {py : Pos} {elt tg iter : Expr} {ifs : List Expr} {scope : Scope} {spos : Pos} {t : Tg} {gi : Sl → R (List D)} {tt : Sl → R Bool} {ge : Sl → R D}
    (own : List (Str × Nat)) (hc : X.calm = true) (hN : X.N.Nodup) (hi : SI X E ks false tg iter gi) (ok : BlkOk X.N X.env.scope scope own) (hv : ∀ i ∈ own.map (·.2), i < ks.length) (hm : ∀ i ∈ t.is, i ∈ own.map (·.2))
    (hg : ∀ (s : Shared) (H : Hp) (C : Addr) (cl : List (Str × Addr)) (fp : List Addr), SG (X.blk s H scope (compEnvC scope cl C X.env) fp) tg t)
    (ht : ∀ (s : Shared) (H : Hp) (C : Addr) (cl : List (Str × Addr)) (fp : List Addr), SP1 (X.blk s H scope (compEnvC scope cl C X.env) fp) E (setK (wipeK ks (own.map (·.2))) t.is) ifs tt)
    (he : ∀ (s : Shared) (H : Hp) (C : Addr) (cl : List (Str × Addr)) (fp : List Addr), SE (X.blk s H scope (compEnvC scope cl C X.env) fp) E (setK (wipeK ks (own.map (·.2))) t.is) .val elt ge)
    (hsw : swapsWith (.ListComp elt [⟨tg, iter, ifs, 0⟩] scope pos) (some (.Name y py)) spos.line X.env = pure true) (hf : fin ks := by trivial) (hk : ks[i]? = some k0 := by rfl) (hy : X.N[i]? = some y := by rfl) (hyl : X.env.scope.names.lookup y = some .local := by rfl)
    (hs : ∀ x, foldedSetIterable iter X.env x = pure x := by intro _; rfl) :
    SS X E kr fin ks (.Assign [.Name y py] (.ListComp elt [⟨tg, iter, ifs, 0⟩] scope pos) spos) (mSet i (gComp gi t (own.map (·.2)) tt ge)) (ks.set i (.own none)) := by
  refine ⟨fun Hs H r σ W Dn tk S P => ?_⟩
  refine ws_of (ps_setLc (i := i) hc hN hy hyl hsw pi_wi ok pg_rd pts_rd pe_rd hs) ?_
  exact comp_read hi hv hm hg ht he tk S (Post.ofS (k := .own none) hf S P fun d v Hs' H' e1 g1 k1 P1 => P1 Hs' H' _ (S.putK g1 hk rfl k1))
@[simp] def mRet (g : Sl → R D) : Sl → O := fun r => onR (g r) r fun d => .rt d r
theorem ss_ret (he : SE X E ks kr e g) (hf : fin ks := by trivial) (fk : kr.fine = true := by rfl) : SS X E kr fin ks (.Return (some e) pos) (mRet g) ks' := by
  refine ⟨fun Hs H r σ W Dn tk S P => ?_⟩
  refine ws_of (ps_ret pe_we) ?_
  exact he.run _ _ _ _ _ _ tk S (Post.ofS hf S P fun d v Hs' H' e1 g1 k1 P1 => P1 Hs' H' σ v ks hf (S.push g1 fk k1))
@[simp] def mIf (tc : Sl → R Bool) (m1 m2 : Sl → O) : Sl → O := fun r => onR (tc r) r fun b => if b then m1 r else m2 r
theorem PostT.ofS {Hs H : Hp} {r : Sl} {σ : L2.St} {W : WX} {Dn : Ends} {x : R Bool} {kk : Bool → O} {Q1 : Bool → Hp → Prop} (hf : fin ks) (S : StRel E Hs H ks r σ) (P : PostS E ks' kr fin W Dn (onR x r kk))
    (h : ∀ b Hs' H', x = .ok b → Grow Hs H Hs' H' → PostS E ks' kr fin W Dn (kk b) → Q1 b H') : PostT E.cl Hs H Q1 (fun c dd H' => W c dd σ H') x := by
  cases x with
  | stuck => exact P
  | exc x => exact fun c dd Hs' H' g z => P Hs' H' σ c dd ks hf (S.grow g) z
  | ok d => exact fun Hs' H' g => h d Hs' H' rfl g P
theorem ss_if {c : Expr} {a b : List Stmt} {tc : Sl → R Bool} (hc : ST X E ks c tc) (ha : SB X E kr fin ks a m1 ks') (hb : SB X E kr fin ks b m2 ks') (hf : fin ks := by trivial) : SS X E kr fin ks (.If c a b pos) (mIf tc m1 m2) ks' := by
  refine ⟨fun Hs H r σ W Dn tk S P => ?_⟩
  refine ws_of (ps_if pt_wt pss_ws pss_ws) ?_
  refine hc.run _ _ _ _ _ _ tk S (PostT.ofS hf S P fun x Hs' H' e1 g1 P1 => ?_)
  cases x with
  | true => exact iteT (ha.run _ _ _ _ _ _ tk (S.grow g1) P1)
  | false => exact iteF (hb.run _ _ _ _ _ _ tk (S.grow g1) P1)
def forL (t : Tg) (mb : Sl → O) : List D → Sl → O
  | [], r => .nx r
  | d :: ds, r => match t.un d with
    | .ok xs => (match mb (setD r t.is xs) with
      | .nx r' => forL t mb ds r'
      | o => o)
    | _ => .stuck
@[simp] def mFor (gi : Sl → R (List D)) (t : Tg) (mb : Sl → O) : Sl → O := fun r => onR (gi r) r fun ds => forL t mb ds r
theorem PostI.ofS {md : Bool} {Hs H : Hp} {r : Sl} {σ : L2.St} {W : WX} {Dn : Ends} {x : R (List D)} {kk : List D → O} {Q1 : It → Hp → Prop} (hf : fin ks) (S : StRel E Hs H ks r σ) (P : PostS E ks' kr fin W Dn (onR x r kk))
    (h : ∀ ds J Hs' H', x = .ok ds → Grow Hs H Hs' H' → ItOk E.cl J ds Hs' (bq E md H') → PostS E ks' kr fin W Dn (kk ds) → Q1 J H') : PostI E md Hs H Q1 (fun c dd H' => W c dd σ H') x := by
  cases x with
  | stuck => exact P
  | exc x => exact fun c dd Hs' H' g z => P Hs' H' σ c dd ks hf (S.grow g) z
  | ok d => exact fun J Hs' H' g i => h d J Hs' H' rfl g i P
theorem ss_for {tg iter : Expr} {body : List Stmt} {gi : Sl → R (List D)} {t : Tg} {mb : Sl → O} (hp : PassesOwn (model X.prog X.w) X.A X.env X.xe) (hc : X.calm = true) (hi : SI X E ks true tg iter gi) (hg : SG X tg t)
    (hb : ∀ s, SB X (E.at_ s) kr fin ks body mb ks) (hl : ∀ i ∈ t.is, i < ks.length) (hk : setK ks t.is = ks := by rfl) (hf : fin ks := by trivial)
    (hs : ∀ x, foldedSetIterable iter X.env x = pure x := by intro _; rfl) : SS X E kr fin ks (.For tg iter body [] pos) (mFor gi t mb) ks := by
  refine ⟨fun Hs H r σ W Dn tk S P => ?_⟩
  refine ws_of (ps_for hp hc pi_wi pg_wg pss_ws hs) ?_
  refine hi.run _ _ _ _ _ _ tk S (PostI.ofS hf S P fun ds J Hs1 H1 e1 g1 J1 P1 => ?_)
  have S1 := S.grow g1
  have F1 := S1.facts
  have D1 := S1.down
  refine ⟨fun i m σ' H' => m = ds.length - i ∧ i ≤ ds.length ∧ ∃ Hs' r', StRel (E.at_ Hs1) Hs' H' ks r' σ' ∧ PostS E ks kr fin W Dn (forL t mb (ds.drop i) r'),
    ⟨ds.length, by simp, Nat.zero_le _, Hs1, r, D1, P1⟩, ?_⟩
  rintro i m σ' H' ⟨rfl, hi', Hs', r', S', P'⟩
  have fs := S'.facts
  by_cases hlt : i < ds.length
  · refine .inr ⟨J1.go Hs' H' fs.1 S'.sub fs.2.1 i hlt, fun σ2 H2 => ∃ Hs2 r2, StRel (E.at_ Hs1) Hs2 H2 ks r2 σ2 ∧ PostS E ks kr fin W Dn (forL t mb (ds.drop (i + 1)) r2), ?_, ?_⟩
    · rintro σ2 H2 ⟨Hs2, r2, z1, z2⟩
      exact ⟨ds.length - (i + 1), by omega, rfl, hlt, Hs2, r2, z1, z2⟩
    · intro x H2 y
      have hd : ds[i]? = some ds[i] := by simp [hlt]
      obtain ⟨Hs2, g3, rx⟩ := J1.yld Hs' H' fs.1 S'.sub fs.2.1 i _ x H2 hd y
      rw [List.drop_eq_getElem_cons hlt] at P'
      dsimp only [forL] at P'
      cases q : t.un ds[i] with
      | stuck => rw [q] at P'; exact P'.elim
      | exc z => rw [q] at P'; exact P'.elim
      | ok xs =>
        rw [q] at P'
        dsimp only at P'
        refine hg.run E.cl Hs2 H2 _ _ x xs _ g3.sub rx q fun ys ry => ?_
        have S3 : StRel (E.at_ Hs1) Hs2 H2 (setK ks t.is) (setD r' t.is xs) (setV σ' t.is ys) := StRel.puts (S'.grow g3) hl (Tg.un_len q) ry
        rw [hk] at S3
        refine (hb Hs1).run _ _ _ _ W _ tk S3 ?_
        cases q2 : mb (setD r' t.is xs) with
        | stuck => rw [q2] at P'; exact P'
        | nx r2 =>
          rw [q2] at P'
          exact fun Hs4 H4 σ4 S4 => ⟨Hs4, r2, S4, P'⟩
        | rt d r2 =>
          rw [q2] at P'
          exact fun Hs4 H4 σ4 v ks2 z S4 => P' Hs4 H4 σ4 v ks2 z (S4.up F1.1 F1.2.2.1)
        | exc z r2 =>
          rw [q2] at P'
          exact fun Hs4 H4 σ4 c dd ks2 w S4 xr => P' Hs4 H4 σ4 c dd ks2 w (S4.up F1.1 F1.2.2.1) xr
  · have e : i = ds.length := by omega
    subst e
    rw [List.drop_length] at P'
    exact .inl ⟨J1.stop Hs' H' fs.1 S'.sub fs.2.1, P' Hs' H' σ' (S'.up F1.1 F1.2.2.1)⟩
def whileL (tc : Sl → R Bool) (mb : Sl → O) : Nat → Sl → O
  | 0, _ => .stuck
  | n + 1, r => onR (tc r) r fun b => if b then (match mb r with
    | .nx r' => whileL tc mb n r'
    | o => o) else .nx r
theorem ss_while {c : Expr} {body : List Stmt} {tc : Sl → R Bool} {mb : Sl → O} (n : Nat) (hp : PassesOwn (model X.prog X.w) X.A X.env X.xe) (hc : ST X E ks c tc) (hb : SB X E kr fin ks body mb ks) (hf : fin ks := by trivial) :
    SS X E kr fin ks (.While c body [] pos) (whileL tc mb n) ks := by
  refine ⟨fun Hs H r σ W Dn tk S P => ?_⟩
  refine ws_of (ps_while hp pt_wt pss_ws) ?_
  refine ⟨fun m σ' H' => ∃ Hs' r', StRel E Hs' H' ks r' σ' ∧ PostS E ks kr fin W Dn (whileL tc mb m r'), ⟨n, Hs, r, S, P⟩, ?_⟩
  rintro m σ' H' ⟨Hs', r', S', P'⟩
  cases m with
  | zero => exact P'.elim
  | succ m =>
    dsimp only [whileL] at P'
    refine hc.run _ _ _ _ _ _ tk S' (PostT.ofS hf S' P' fun x Hs2 H2 e1 g1 P1 => ?_)
    cases x with
    | false => exact iteF (P1 Hs2 H2 σ' (S'.grow g1))
    | true =>
      refine iteT ⟨fun σ3 H3 => ∃ Hs3 r3, StRel E Hs3 H3 ks r3 σ3 ∧ PostS E ks kr fin W Dn (whileL tc mb m r3), fun σ3 H3 ⟨Hs3, r3, z1, z2⟩ => ⟨m, Nat.lt_succ_self m, Hs3, r3, z1, z2⟩, ?_⟩
      refine hb.run _ _ _ _ W _ tk (S'.grow g1) ?_
      rw [if_pos rfl] at P1
      cases q2 : mb r' with
      | stuck => rw [q2] at P1; exact P1
      | nx r2 =>
        rw [q2] at P1
        exact fun Hs4 H4 σ4 S4 => ⟨Hs4, r2, S4, P1⟩
      | rt d r2 => rw [q2] at P1; exact P1
      | exc z r2 => rw [q2] at P1; exact P1
end
end VL
end

noncomputable section
namespace VL
open PySem PySem.Spec PyProof.Rows L2
variable {md : Md}

section
variable {X : Cx} {E : En} {kr : Kd} {fin : List Kd → Prop} {ks ks' : List Kd} {e : Expr} {g : Sl → R D} {pos : Pos}
theorem tyV_lst {K : PySem.W.Frag} {H : Hp} {a : Addr} {xs : List V} (h : H a = some (.lst xs)) : tyV K "list" (.ref a) H := .inl ⟨rfl, xs, SqL.of h⟩
@[simp] def mApp (i : Nat) (g : Sl → R D) : Sl → O := fun r => match r[i]? with
  | some (some (.lst ds)) => onR (g r) r fun d => if ds.length < szL then .nx (r.set i (some (.lst (ds ++ [d])))) else .stuck
  | _ => .stuck
/-- x.append(e) -/
theorem ss_append {i : Nat} {n : Option Addr} {x : Str} {p1 p2 p3 : Pos} (he : SE X E ks .val e g) (hf : fin ks := by trivial) (hk : ks[i]? = some (.own n) := by rfl) (hN : X.N[i]? = some x := by rfl) (hv : Vis X.env.scope x := by first | exact Or.inl rfl | exact Or.inr (Or.inl rfl) | exact Or.inr (Or.inr rfl))
    (hq : NmOk x)
    (hs : swapsWith (.Call (.Attribute (.Name x p1) "append" p2) [e] [] p3) none pos.line X.env = pure false := by rfl)
    (hbase : attributeBase (.Name x p1) "append" X.env (eval (.Name x p1) X.env) = eval (.Name x p1) X.env := by rfl)
    (hfew : ((backTo p3 (starEach [e] X.env)).all (fun x => !x.1) && (backToKw p3 (keywordEach [] X.env)).all (fun x => x.1.isSome)
      && decide ([e].length + ([] : List Keyword).length + (if ([] : List Keyword).isEmpty then 0 else 1) < 30)) = true := by rfl)
    (hline : (p2.endLine == p3.line) = true := by rfl) (hst : starEach [e] X.env = (false, eval e X.env) :: starEach [] X.env := by rfl) (hplain : (backTo p3 (starEach [] X.env)).any (·.1) = false := by rfl) :
    SS X E kr fin ks (.Expr (.Call (.Attribute (.Name x p1) "append" p2) [e] [] p3) pos) (mApp i g) ks := by
  refine ⟨fun Hs H r σ W Dn tk S P => ?_⟩
  refine ws_of (ps_expr (pe_bm PySem.F.plainAttrs_list PySem.F.slot_list_append PySem.F.type_list_append mt_append (pe_var hN hv hq.1 hq.2) (pa_cons pe_we pa_nil hst) hbase hfew hline hst hplain) hs) ?_
  unfold mApp at P
  split at P
  · rename_i ds q
    obtain ⟨a, xs, ea, h1, r1, _⟩ := S.mutL hk q
    refine ⟨.ref a, ea, tyV_lst h1, ?_⟩
    refine he.run _ _ _ _ _ _ tk S (Post.ofS hf S P fun d v Hs' H' e1 g1 k1 P1 => ?_)
    obtain ⟨a', xs', ea', h2, r2, up⟩ := (S.grow g1).mutL hk q
    rw [ea] at ea'
    cases ea'
    split at P1
    · rename_i hz
      exact ⟨a, xs', v, rfl, rfl, h2, by rw [szL_eq, r2.length]; exact hz, P1 _ _ _ (up _ _ (r2.app (.cons k1.rep .nil)))⟩
    · exact P1.elim
  · exact P.elim
end

theorem fun_okM {P : Program} {w : World} {K : PySem.W.Frag} {mg : Str → Option Value} {base : Heap} {x qual : Str} {st : Stmt} {f : Addr} {fd : FuncData} {N ps : List Str} {k : Nat} {sp : Sp} (F : Fun K x qual st f fd) (S : FnScope N ps (defScope st)) (len : ∀ vs H Q E, sp vs H Q E → vs.length = ps.length)
    (hbody : ∀ (cdv : Value) (A : Around) (outer : List Env) (s : Shared) (H : Hp) (vs : List V) (Q : VK) (E : XK), Room k (A.deeper (envOfC qual (defScope st) s.heap.objs.size f cdv)) → sp vs H Q E →
      ∃ t, PSs (cxOf (CXM P w) P w K mg base N qual (defScope st) f cdv A outer s H E) (defBody st) t ∧ t { nx := fun _ H' => Q .non H', rt := Q } (start N vs) H) : FnOk P w K mg base (CXM P w) (k + 1) f fd ps sp := by
  obtain ⟨oc, od, kV, doc, pm, an, cdv, ct, osl, rfl, lk, hcd⟩ := F.ex
  exact fn_of lk hcd S len fun A outer s H vs Q E hr hsp => hbody cdv A outer s H vs Q E hr hsp

theorem ps_raiseM {X : Cx} {W : WX} {e : Expr} {t : L2.St → Hp → XK → Prop} {pos : Pos} (hc : X.calm = true) (tk : Takes X W) (hz : L2.PMk X e t) (hn : L2N.PMk X e t) : PS X (.Raise (some e) none pos) (fun _ σ H => t σ H fun cls d H' => W cls d σ H') := by
  obtain ⟨n⟩ := md
  cases n
  · exact L2.ps_raise hc tk hz
  · exact L2N.ps_raise hc tk hn
/-- C(e, ..), its context None -/
theorem pmk_oexN {X : Cx} {e : Expr} {es : List Expr} {ta : TA} {p pos : Pos} {CX : CXT} {x : Str} {C fI : Addr} {k : Nat} {fd : FuncData} {ps : List Str} {sp : Sp} (T : OexC X.K C) (iC : PySem.W.findIn X.K (.ref C) "__init__" = some (some (.ref fI))) (tI : PySem.W.typeIn X.K (.ref fI) = some (.type "function"))
    (F1 : FnOk X.prog X.w X.K X.mg X.base CX k fI fd ps sp) (hr : Room (k + 1) X.A) (hb : Binds X.K fd ps []) (hx : Passes CX X (fun _ _ _ => False)) (hg : Gl X x) (hm : X.mg x = some (.ref C)) (ha : PA X (e :: es) ta)
    (hdb : (x == ("__debug__" : Str)) = false := by decide) (he : starEach (e :: es) X.env = (false, eval e X.env) :: starEach es X.env := by rfl) (hpl : (backTo pos (starEach es X.env)).any (·.1) = false := by rfl) :
    L2N.PMk X (.Call (.Name x p) (e :: es) [] pos) (tMkO C sp [] ta) := by
  intro pins s σ H Q I h
  obtain ⟨nm, q, N, bs, bm, sn, sub, ab, col, dd, k0, k1, k2, k3, k5, hC, hbm⟩ := T.cls
  refine wpAny_Call_Name_kw (ld_glob I hg hm ?_ hdb)
  refine PySem.W.callWith_K (h₀ := X.base) I.ok.mod.kin T.kC (thn (ha.run pos pins s σ H _ I h) fun us s1 ⟨vs, H1, I1, rv, hz, want⟩ => ⟨I1.kIn, ?_⟩) he hpl
  show wpAny _ _ (call (.ref C) us) _ _ _
  obtain ⟨hp, g, dr, tk, os⟩ := s1
  have lesz : hp.objs.size ≤ hp.objs.size + 1 := Nat.le_succ _
  have new1 : H1 (hp.objs.size + 1) = none := I1.hok.fresh lesz
  have hq := want (hp.objs.size + 1) new1
  rw [List.append_nil] at hq
  have keeps : ∀ b o, hp.get? b = some o → ((hp.push (PySem.W.kdv_tup us)).push (PySem.HandSPX.excO C hp.objs.size)).get? b = some o := fun b o e => Heap.get?_push_of_some _ (Heap.get?_push_of_some _ e)
  have there : ((hp.push (PySem.W.kdv_tup us)).push (PySem.HandSPX.excO C hp.objs.size)).get? (hp.objs.size + 1) = some (PySem.HandSPX.excO C hp.objs.size) := by heap_get
  have I2 : Inv X pins σ (upd H1 (hp.objs.size + 1) (exo (hp.objs.size + 1) C none)) ⟨(hp.push (PySem.W.kdv_tup us)).push (PySem.HandSPX.excO C hp.objs.size), g, dr, tk, os⟩ :=
    I1.laid (t' := tk) (a := hp.objs.size + 1) (o := exo (hp.objs.size + 1) C none) (h' := (hp.push (PySem.W.kdv_tup us)).push (PySem.HandSPX.excO C hp.objs.size)) keeps lesz (exo_ok there)
  have rv2 : Vals (V.ref (hp.objs.size + 1) :: vs) (Value.ref (hp.objs.size + 1) :: us) := .cons rfl rv
  have len2 : (Value.ref (hp.objs.size + 1) :: us ++ []).length = ps.length := by
    have e := rv2.length
    rw [F1.len _ _ _ _ hq] at e
    rw [List.append_nil]
    exact e.symm
  have short : us.length ≤ sizeLine := by
    rw [← Paired.length rv, sizeLine_eq]
    omega
  have bound := hb _ (Value.ref (hp.objs.size + 1) :: us) I2.kIn len2
  rw [List.append_nil] at bound
  refine wpAny_call (PySem.HandSPX.call_own F.excBase_ValueError (fun Y => PySem.HandSPX.refsVE_contains Y bm hbm) (I1.kIn _ _ hC) (PySem.W.looks_findIn I1.kIn iC) (fun self => PySem.W.bind_fn I1.kIn self tI) short
    (codeAny_mono (F1.run _ X.stack _ _ ⟨Value.ref (hp.objs.size + 1) :: us, []⟩ (Value.ref (hp.objs.size + 1) :: us) _ _ (fun _ _ _ => False) (hr.make C us []) (I2.env0.make C us []) bound rv2 hq) fun r s' ended => ?_))
  cases r with
  | error er => exact hx pins σ _ _ er s' I2 ended
  | ok fl =>
    cases fl with
    | next => exact ended.elim
    | brk => exact ended.elim
    | cont => exact ended.elim
    | ret u =>
      obtain ⟨v, H2, os2, bare2, un2, hok2, ru, ev, d, fs, ea, ed, hd1, q2⟩ := ended
      subst ev
      obtain ⟨h2, g2, d2, t2, os'⟩ := s'
      obtain ⟨t0, G, J, kG, ge, hoe, na⟩ := mk_end0 (d2 := d2) (t2 := t2) I1 lesz keeps un2 hok2 os2 bare2 ea ed hd1
      refine ⟨ru, ⟨hp.objs.size + 1, _, _, ⟨G, g2, d2, t2, os'⟩, _, .ref C, some d, rfl, J, kG, ge, hoe, ⟨rfl, rfl, fun vs hv => ?_⟩, rfl, rfl, na, rfl, bare2, raises_own T.exC T.tyC, q2⟩⟩
      cases hv
      rfl

section
variable {X : Cx} {E : En} {kr : Kd} {fin : List Kd → Prop} {ks ks' : List Kd} {e : Expr} {g : Sl → R D} {pos : Pos}
/-- an own class whose __init__ stores its one argument in the field «at» -/
structure XAt (P : Program) (w : World) (K : PySem.W.Frag) (mg : Str → Option Value) (base : Heap) (cl : Cl) (C : Str) (k : Nat) : Prop where
  ex : ∃ a fI fd ps, cl.f C = some a ∧ mg C = some (.ref a) ∧ OexC K a ∧ PySem.W.findIn K (.ref a) "__init__" = some (some (.ref fI)) ∧ PySem.W.typeIn K (.ref fI) = some (.type "function") ∧ Binds K fd ps [] ∧
    FnOk P w K mg base CX0 k fI fd ps (fun vs H Q _ => ∃ x v, vs = [.ref x, v] ∧ H x = some (exo x a none) ∧ ∀ dx, H dx = none → dx ≠ x → Q .non (upd (upd H x (exo x a (some dx))) dx (exd dx [("at", v)])))
@[simp] def mRaiseAt (C : Str) (g : Sl → R D) : Sl → O := fun r => onR (g r) r fun d => .exc ⟨C, some d⟩ r
theorem ss_raiseAt {C : Str} {k : Nat} {p1 p3 : Pos} (hc : X.calm = true) (T : XAt X.prog X.w X.K X.mg X.base E.cl C k) (hr : Room (k + 1) X.A) (he : SE X E ks .val e g) (hq : NmOk C) (hg : Gl X C := by rfl) (hf : fin ks := by trivial)
    (hst : starEach (e :: []) X.env = (false, eval e X.env) :: starEach [] X.env := by rfl) (hpl : (backTo p3 (starEach [] X.env)).any (·.1) = false := by rfl) :
    SS X E kr fin ks (.Raise (some (.Call (.Name C p1) [e] [] p3)) none pos) (mRaiseAt C g) ks' := by
  refine ⟨fun Hs H r σ W Dn tk S P => ?_⟩
  obtain ⟨a, fI, fd, ps, h1, h2, h3, h4, h5, h6, h7⟩ := T.ex
  refine ws_of (ps_raiseM hc tk (pmk_oex h3 h4 h5 h7 hr h6 .nil pass0 hg h2 pa_wa hq.1 hst hpl) (pmk_oexN h3 h4 h5 h7 hr h6 pass0 hg h2 pa_wa hq.1 hst hpl)) ?_
  refine wa_one (he.run _ _ _ _ _ _ tk S (Post.ofS hf S P fun d v Hs' H' e1 g1 k1 P1 => ?_)) hst
  refine ⟨by show 1 ≤ 1000; decide, fun x hx => ⟨x, v, rfl, upd_same, fun dx hd ne => ⟨rfl, dx, [("at", v)], ?_, upd_same, ?_, ?_⟩⟩⟩
  · rw [upd_ne ne.symm, upd_same]
  · rw [upd_ne ne] at hd
    exact hd
  · have hd' : H' dx = none := by
      rw [upd_ne ne] at hd
      exact hd
    have eq : upd (del (upd (upd (upd H' x (exo x a none)) x (exo x a (some dx))) dx (exd dx [("at", v)])) x) dx (.xd [("at", v)]) = upd H' dx (.xd [("at", v)]) := by
      funext b
      by_cases hb : b = dx
      · rw [hb, upd_same, upd_same]
      · rw [upd_ne hb, upd_ne hb]
        by_cases hx2 : b = x
        · rw [hx2, del_same, hx]
        · rw [del_ne hx2, upd_ne hb, upd_ne hx2, upd_ne hx2]
    rw [eq]
    have g2 := Grow.new g1.sub (o := .xd [("at", v)]) hd'
    exact P1 _ _ σ _ _ ks hf ((S.grow g1).grow g2) ⟨a, h1, rfl, dx, v, rfl, upd_same, Rep.same g2.s _ _ k1.rep⟩
end

/-- a def's promise by its plain function -/
def spV (cl : Cl) (bs : List Bool) (kr : Kd) (f : List D → R D) : Sp := fun vs H Q E => ∃ ds Hs, Same Hs H ∧ RAs cl Hs H bs ds vs ∧ Post cl kr Hs H Q E (f ds)
@[simp] def outF : O → R D
  | .nx _ => .ok .non
  | .rt d _ => .ok d
  | .exc x _ => .exc x
  | .stuck => .stuck
/-- the plain function of a body with n further names -/
@[simp] def runF (m : Sl → O) (n : Nat) : List D → R D := fun ds => outF (m (ds.map some ++ List.replicate n none))
structure Fi [md : Md] (P : Program) (w : World) (K : PySem.W.Frag) (mg : Str → Option Value) (base : Heap) (cl : Cl) (x : Str) (k : Nat) (bs : List Bool) (kr : Kd) (f : List D → R D) : Prop where
  ex : ∃ fa fd ps, FnOk P w K mg base (CXM P w) k fa fd ps (spV cl bs kr f) ∧ mg x = some (.ref fa) ∧ PySem.W.keepIn K (.ref fa) = true ∧ Binds K fd ps []
theorem Fi.mono {P : Program} {w : World} {K : PySem.W.Frag} {mg : Str → Option Value} {base : Heap} {cl : Cl} {x : Str} {k k' : Nat} {bs : List Bool} {kr : Kd} {f : List D → R D} (F : Fi P w K mg base cl x k bs kr f) (h : k ≤ k') : Fi P w K mg base cl x k' bs kr f := by
  obtain ⟨fa, fd, ps, h1, h2⟩ := F.ex
  exact ⟨fa, fd, ps, h1.mono h, h2⟩
def kdOf : Bool → Kd
  | true => .val
  | false => .bor
theorem slots_start {E : En} {Hs H : Hp} (eb : E.b = H) : ∀ {bs : List Bool} {ds : List D} {vs : List V}, RAs E.cl Hs H bs ds vs → ∀ (ls : List Kd), Slots E Hs H (bs.map kdOf ++ ls) (ds.map some ++ List.replicate ls.length none) (vs.map some ++ List.replicate ls.length none) []
  | _, _, _, .nil, ls => by
    induction ls with
    | nil => exact .nil
    | cons l ls ih => exact .skip ih
  | _, _, _, .val r t, ls => .cons (A := []) (.val r) (slots_start eb t ls)
  | _, _, _, .bor r t, ls => by
    refine .cons (A := []) ?_ (slots_start eb t ls)
    show ORep E.cl E.N E.b Hs H .bor _ _ []
    cases r with
    | val r => exact .borV r
    | lst h1 h2 => exact .borL (by rw [eb]; exact h1) h2
    | dct h1 h2 => exact .borK (by rw [eb]; exact h1) h2
    | obj h0 h1 h2 => exact .borO h0 (by rw [eb]; exact h1) (by rw [eb]; exact h2)
theorem def_okF {P : Program} {w : World} {K : PySem.W.Frag} {mg : Str → Option Value} {base : Heap} {cl : Cl} {x qual : Str} {st : Stmt} {fa : Addr} {fd : FuncData} {N ps : List Str} {k : Nat} {bs : List Bool} {kr : Kd} {ls ks' : List Kd} {m : Sl → O}
    (F : Fun K x qual st fa fd) (S : FnScope N ps (defScope st)) (hb : bs.length = ps.length) (hN : N.length = ps.length + ls.length) (fk : kr.fine = true) (ko : kr = .val ∨ kr = .own none)
    (body : ∀ (cdv : Value) (A : Around) (outer : List Env) (s : Shared) (H : Hp) (E : XK) (h0 s0 b0 : Hp), Room k (A.deeper (envOfC qual (defScope st) s.heap.objs.size fa cdv)) →
      SB (cxOf (CXM P w) P w K mg base N qual (defScope st) fa cdv A outer s H E) ⟨cl, h0, s0, b0⟩ kr (fun _ => True) (bs.map kdOf ++ ls) (defBody st) m ks') : FnOk P w K mg base (CXM P w) (k + 1) fa fd ps (spV cl bs kr (runF m ls.length)) := by
  refine fun_okM F S (fun vs H Q E h => ?_) (fun cdv A outer s H vs Q E hr h => ?_)
  · obtain ⟨ds, Hs, _, a, _⟩ := h
    rw [a.len.1, hb]
  · obtain ⟨ds, Hs, e, a, p⟩ := h
    refine ⟨_, pss_ws, ?_⟩
    have tk : Takes (cxOf (CXM P w) P w K mg base N qual (defScope st) fa cdv A outer s H E) (fun c dd _ H' => E c dd H') := takes_of rfl rfl rfl rfl
    have hst : L2.start N vs = vs.map some ++ List.replicate ls.length none := by
      unfold L2.start
      rw [a.len.1, hb, hN, Nat.add_sub_cancel_left]
    have S0 : StRel ⟨cl, H, Hs, H⟩ Hs H (bs.map kdOf ++ ls) (ds.map some ++ List.replicate ls.length none) (L2.start N vs) := by
      rw [hst]
      exact ⟨[], slots_start rfl a ls, List.nodup_nil, (fun a ha => nomatch ha), Same.refl _, e, Same.refl _, fun a z => .inl z, fun a z => z, fun _ z => z⟩
    refine (body cdv A outer s H E H Hs H hr).run _ _ _ _ _ _ tk S0 ?_
    unfold runF at p
    cases q : m (ds.map some ++ List.replicate ls.length none) with
    | stuck => rw [q] at p; exact p
    | nx r =>
      rw [q] at p
      intro Hs' H' σ' S'
      have f := S'.facts
      refine p .non Hs' H' ⟨f.1, f.2.1, f.2.2.1, S'.sub, f.2.2.2⟩ ?_
      rcases ko with rfl | rfl
      · exact RK.val .non
      · exact RK.ownPlain rfl .non
    | rt d r =>
      rw [q] at p
      intro Hs' H' σ' v ks2 _ S'
      have f := S'.facts
      refine p v Hs' H' ⟨f.1, f.2.1, f.2.2.1, S'.sub, f.2.2.2⟩ ?_
      obtain ⟨As, s'⟩ := S'
      have sl := s'.sl
      cases sl with
      | cons o t =>
        rename_i A As'
        refine ⟨A, ORep.anyB kr _ _ _ fk o, (List.nodup_append.mp s'.nd).1, fun a ha => ?_⟩
        have z := s'.dis a (List.mem_append_left _ ha)
        exact ⟨z.1, z.2⟩
    | exc z r =>
      rw [q] at p
      intro Hs' H' σ' c dd ks2 _ S' xr
      have f := S'.facts
      exact p c dd Hs' H' ⟨f.1, f.2.1, f.2.2.1, S'.sub, f.2.2.2⟩ xr
theorem def_ok {P : Program} {w : World} {K : PySem.W.Frag} {mg : Str → Option Value} {base : Heap} {cl : Cl} {x qual : Str} {st : Stmt} {fa : Addr} {fd : FuncData} {N ps : List Str} {k : Nat} {bs : List Bool} {kr : Kd} {ls ks' : List Kd} {m : Sl → O}
    (F : Fun K x qual st fa fd) (S : FnScope N ps (defScope st)) (gm : mg x = some (.ref fa)) (bn : Binds K fd ps []) (hb : bs.length = ps.length) (hN : N.length = ps.length + ls.length) (fk : kr.fine = true) (ko : kr = .val ∨ kr = .own none)
    (body : ∀ (cdv : Value) (A : Around) (outer : List Env) (s : Shared) (H : Hp) (E : XK) (h0 s0 b0 : Hp), Room k (A.deeper (envOfC qual (defScope st) s.heap.objs.size fa cdv)) →
      SB (cxOf (CXM P w) P w K mg base N qual (defScope st) fa cdv A outer s H E) ⟨cl, h0, s0, b0⟩ kr (fun _ => True) (bs.map kdOf ++ ls) (defBody st) m ks') : Fi P w K mg base cl x (k + 1) bs kr (runF m ls.length) :=
  ⟨fa, fd, ps, def_okF F S hb hN fk ko body, gm, F.kp, bn⟩
/-- f(e, ..) -/
theorem se_call {X : Cx} {E : En} {ks : List Kd} {x : Str} {k : Nat} {bs : List Bool} {kr : Kd} {f : List D → R D} {e : Expr} {es : List Expr} {t : Sl → R (List D)} {p pos : Pos} (F : Fi X.prog X.w X.K X.mg X.base E.cl x k bs kr f) (hr : Room k X.A) (ha : SA X E ks bs (e :: es) t)
    (hq : NmOk x) (hg : Gl X x := by rfl) (he : starEach (e :: es) X.env = (false, eval e X.env) :: starEach es X.env := by rfl) (hpl : (backTo pos (starEach es X.env)).any (·.1) = false := by rfl) :
    SE X E ks kr (.Call (.Name x p) (e :: es) [] pos) (gCall f t) := by
  refine ⟨fun Hs H r σ W Q tk S P => ?_⟩
  obtain ⟨fa, fd, ps, h1, h2, h3, h4⟩ := F.ex
  refine we_of (pe_callS h1 hr hg h2 h3 h4 (fun σ => passAt tk σ) pa_wa hq.1 he hpl) ?_
  refine ha.run _ _ _ _ _ _ tk S (PostA.of P fun ds vs Hs' H' e1 g1 a P1 => ?_)
  exact ⟨ds, Hs', g1.sub, a, P1⟩
end VL
end

noncomputable section
namespace VL
open PySem PySem.Spec PyProof.Rows L2
variable {md : Md}

theorem bb_len : bootBuiltins "len" = some (.builtin "len") := by decide +kernel
theorem bn_len : ("len" : Str) ≠ "__name__" := by decide
theorem bd_len : (("len" : Str) == ("__debug__" : Str)) = false := by decide
theorem bb_all : bootBuiltins "all" = some (.builtin "all") := by decide +kernel
theorem bn_all : ("all" : Str) ≠ "__name__" := by decide
theorem bd_all : (("all" : Str) == ("__debug__" : Str)) = false := by decide
theorem bb_isinstance : bootBuiltins "isinstance" = some (.builtin "isinstance") := by decide +kernel
theorem bb_list : bootBuiltins "list" = some (.type "list") := by decide +kernel
theorem bn_list : ("list" : Str) ≠ "__name__" := by decide
theorem bd_list : (("list" : Str) == ("__debug__" : Str)) = false := by decide
theorem bb_tuple : bootBuiltins "tuple" = some (.type "tuple") := by decide +kernel
theorem bn_tuple : ("tuple" : Str) ≠ "__name__" := by decide
theorem bd_tuple : (("tuple" : Str) == ("__debug__" : Str)) = false := by decide
theorem bb_int : bootBuiltins "int" = some (.type "int") := by decide +kernel
theorem bn_int : ("int" : Str) ≠ "__name__" := by decide
theorem bd_int : (("int" : Str) == ("__debug__" : Str)) = false := by decide
theorem bb_bool : bootBuiltins "bool" = some (.type "bool") := by decide +kernel
theorem bn_bool : ("bool" : Str) ≠ "__name__" := by decide
theorem bd_bool : (("bool" : Str) == ("__debug__" : Str)) = false := by decide
theorem bb_str : bootBuiltins "str" = some (.type "str") := by decide +kernel
theorem bn_str : ("str" : Str) ≠ "__name__" := by decide
theorem bd_str : (("str" : Str) == ("__debug__" : Str)) = false := by decide
theorem bb_dict : bootBuiltins "dict" = some (.type "dict") := by decide +kernel
inductive Ty5 where
  | list | tuple | bool | str | int
def Ty5.nm : Ty5 → String
  | .list => "list"
  | .tuple => "tuple"
  | .bool => "bool"
  | .str => "str"
  | .int => "int"
@[simp] def isTy : Ty5 → D → Bool
  | .list, .lst _ => true
  | .tuple, .tup _ => true
  | .bool, .bl _ => true
  | .str, .str _ => true
  | .int, .int _ => true
  | .int, .bl _ => true
  | _, _ => false
@[simp] def tyNm : D → Option String
  | .non => some "NoneType"
  | .bl _ => some "bool"
  | .int _ => some "int"
  | .str _ => some "str"
  | .lst _ => some "list"
  | .tup _ => some "tuple"
  | .dct _ => none
  | .obj _ _ => none
  | .scr _ => none
theorem RB.tyX {K : PySem.W.Frag} {cl : Cl} {Hs H : Hp} {d : D} {v : V} {t : String} (h : RB cl Hs H d v) (e : Same Hs H) (q : tyNm d = some t) : TyX K H v (.type t) := by
  cases d with
  | non => cases q; cases h.nonInv; exact .base .non
  | bl b => cases q; cases h.blInv; exact .base (.bl _)
  | int i => cases q; cases h.intInv; exact .base (.int _)
  | str x => cases q; cases h.strInv; exact .base (.str _)
  | lst ds => cases q; obtain ⟨a, xs, rfl, h1, _⟩ := h.lstInv e; exact .base (.lst h1)
  | tup ds => cases q; obtain ⟨a, xs, rfl, h1, _⟩ := h.tupInv e; exact .base (.tup h1)
  | dct ds => cases q
  | obj _ _ => cases q
  | scr _ => cases q
def allTy : List String := ["NoneType", "bool", "int", "str", "list", "tuple", "dict"]
theorem kit_list : ∀ t ∈ allTy, kitB t "list" = some (t == "list") := by decide +kernel
theorem kit_tuple : ∀ t ∈ allTy, kitB t "tuple" = some (t == "tuple") := by decide +kernel
theorem kit_bool : ∀ t ∈ allTy, kitB t "bool" = some (t == "bool") := by decide +kernel
theorem kit_str : ∀ t ∈ allTy, kitB t "str" = some (t == "str") := by decide +kernel
theorem kit_int : ∀ t ∈ allTy, kitB t "int" = some (t == "int" || t == "bool") := by decide +kernel
theorem kit_is (T : Ty5) (d : D) (t : String) (q : tyNm d = some t) : kitB t T.nm = some (isTy T d) := by
  cases T <;> cases d <;> first | (cases q; done) | (cases q; first | exact kit_list _ (by decide) | exact kit_tuple _ (by decide) | exact kit_bool _ (by decide) | exact kit_str _ (by decide) | exact kit_int _ (by decide))
@[simp] def dIs (T : Ty5) (d : D) : R D := match tyNm d with
  | some _ => .ok (.bl (isTy T d))
  | none => .stuck
@[simp] def dIsLT (d : D) : R D := match tyNm d with
  | some _ => .ok (.bl (isTy .list d || isTy .tuple d))
  | none => .stuck
section
variable {X : Cx} {E : En} {ks : List Kd} {e : Expr} {g : Sl → R D} {p p1 p2 p3 pos : Pos}
/-- isinstance(e, T) -/
theorem se_isi (T : Ty5) {y : Str} (he : SE X E ks .bor e g) (hm : X.mg "isinstance" = none) (hmT : X.mg y = none) (hb : bootBuiltins y = some (.type T.nm)) (hn : y ≠ "__name__") (hdb : (y == ("__debug__" : Str)) = false) (hg : Gl X "isinstance" := by rfl) (hgT : Gl X y := by rfl)
    (hs : starEach [e, .Name y p2] X.env = (false, eval e X.env) :: starEach [.Name y p2] X.env := by rfl) (hs2 : starEach [.Name y p2] X.env = (false, eval (.Name y p2) X.env) :: starEach [] X.env := by rfl) (hpl : (backTo pos (starEach [.Name y p2] X.env)).any (·.1) = false := by rfl) :
    SE X E ks .val (.Call (.Name "isinstance" p1) [e, .Name y p2] [] pos) (gUn (dIs T) g) := by
  refine ⟨fun Hs H r σ W Q tk S P => ?_⟩
  refine we_of (pe_callB call_isi hg hm bb_isinstance (pa_cons pe_we (pa_cons (pe_bltn (v := .ty T.nm) hgT hmT hb rfl hn hdb) pa_nil hs2) hs) (by decide) (by decide) hs hpl) ?_
  refine he.run _ _ _ _ _ _ tk S (P.imp fun d v Hs1 H1 e1 g1 k1 P1 => ?_)
  unfold dIs at P1
  split at P1
  · rename_i t q
    exact ⟨v, .ty T.nm, .type t, .type T.nm, isTy T d, rfl, .ty _, k1.rb.tyX g1.sub q, kit_ty (kit_is T d t q), P1.finV g1.sub (.bl _)⟩
  · exact P1.elim
/-- isinstance(e, (list, tuple)) -/
theorem se_isiLT {kk : Nat} (he : SE X E ks .bor e g) (hm : X.mg "isinstance" = none) (hmL : X.mg "list" = none) (hmT : X.mg "tuple" = none) (hg : Gl X "isinstance" := by rfl) (hgL : Gl X "list" := by rfl) (hgT : Gl X "tuple" := by rfl)
    (hs : starEach [e, .Tuple [.Name "list" p2, .Name "tuple" p3] kk p] X.env = (false, eval e X.env) :: starEach [.Tuple [.Name "list" p2, .Name "tuple" p3] kk p] X.env := by rfl) (hs2 : starEach [.Tuple [.Name "list" p2, .Name "tuple" p3] kk p] X.env = (false, eval (.Tuple [.Name "list" p2, .Name "tuple" p3] kk p) X.env) :: starEach [] X.env := by rfl)
    (hs3 : starEach [.Name "list" p2, .Name "tuple" p3] X.env = (false, eval (.Name "list" p2) X.env) :: starEach [.Name "tuple" p3] X.env := by rfl) (hs4 : starEach [.Name "tuple" p3] X.env = (false, eval (.Name "tuple" p3) X.env) :: starEach [] X.env := by rfl)
    (hpl : (backTo pos (starEach [.Tuple [.Name "list" p2, .Name "tuple" p3] kk p] X.env)).any (·.1) = false := by rfl) :
    SE X E ks .val (.Call (.Name "isinstance" p1) [e, .Tuple [.Name "list" p2, .Name "tuple" p3] kk p] [] pos) (gUn dIsLT g) := by
  refine ⟨fun Hs H r σ W Q tk S P => ?_⟩
  refine we_of (pe_callB call_isiT hg hm bb_isinstance (pa_cons pe_we (pa_cons (pe_tup (pa_cons (pe_bltn (v := .ty "list") hgL hmL bb_list rfl) (pa_cons (pe_bltn (v := .ty "tuple") hgT hmT bb_tuple rfl) pa_nil hs4) hs3)) pa_nil hs2) hs) (by decide) (by decide) hs hpl) ?_
  refine he.run _ _ _ _ _ _ tk S (P.imp fun d v Hs1 H1 e1 g1 k1 P1 => ?_)
  refine ⟨by show 2 ≤ sizeLine; decide, fun q hq => ?_⟩
  unfold dIsLT at P1
  split at P1
  · rename_i t q2
    have g2 := Grow.fresh (o := .tup [V.ty "list", V.ty "tuple"]) g1.sub hq
    refine ⟨v, q, _, .type t, [.type "list", .type "tuple"], isTy .list d || isTy .tuple d, rfl, upd_same, .cons (.ty _) (.cons (.ty _) .nil), (k1.rb.grow g2).tyX g2.sub q2, ?_, (P1.grow g2).finV g2.sub (.bl _)⟩
    refine kitAny_cons (b := isTy .list d) (kit_ty (kit_is .list d t q2)) (fun z => ?_) (fun z => by rw [z]; rfl)
    rw [z, Bool.false_or]
    exact kitAny_cons (b := isTy .tuple d) (kit_ty (kit_is .tuple d t q2)) (fun z => by rw [z]; exact kitAny_nil) (fun z => z)
  · exact P1.elim
end

def blsOf : List D → Option (List Bool)
  | [] => some []
  | .bl i :: r => (blsOf r).map (i :: ·)
  | _ :: _ => none
theorem blsOf_map (ns : List Bool) : blsOf (ns.map D.bl) = some ns := by
  induction ns with
  | nil => rfl
  | cons n ns ih => rw [List.map_cons, blsOf, ih]; rfl
theorem blsOf_eq : ∀ {ds : List D} {ns : List Bool}, blsOf ds = some ns → ds = ns.map D.bl
  | [], _, h => by cases h; rfl
  | d :: r, _, h => by
    cases d <;> first | cases h | skip
    rename_i i
    dsimp only [blsOf] at h
    cases q : blsOf r with
    | none => rw [q] at h; cases h
    | some ms =>
      rw [q] at h
      cases h
      rw [blsOf_eq q]
      rfl
theorem RepL.bls {cl : Cl} {H : Hp} {ns : List Bool} : ∀ {vs : List V}, RepL cl H (ns.map D.bl) vs → vs = ns.map V.bl := by
  induction ns with
  | nil =>
    intro vs h
    cases h
    rfl
  | cons n ns ih =>
    intro vs h
    cases h with
    | cons h1 h2 =>
      cases h1
      rw [ih h2]
      rfl
def fAll : List D → R D
  | [.lst ds] => match blsOf ds with
    | some bs => .ok (.bl (bs.all id))
    | none => .stuck
  | _ => .stuck
theorem RB.blsInv {cl : Cl} {Hs H : Hp} {ds : List D} {ns : List Bool} {v : V} (h : RB cl Hs H (.lst ds) v) (e : Same Hs H) (q : blsOf ds = some ns) : ∃ a, v = .ref a ∧ H a = some (.lst (ns.map V.bl)) := by
  obtain ⟨p, xs, rfl, h1, r1⟩ := h.lstInv e
  rw [blsOf_eq q] at r1
  rw [r1.bls] at h1
  exact ⟨p, rfl, h1⟩
theorem callv_all {X : Cx} : CallV X.K (rAll X.K) .val [false] fAll := by
  intro cl Hs H ds vs Q W e a P
  obtain ⟨d, v, rfl, rfl, r⟩ := a.one
  cases d <;> first | exact P.elim | skip
  dsimp only [fAll] at P
  split at P
  · rename_i ns q
    obtain ⟨p, rfl, h1⟩ := r.blsInv e q
    exact ⟨p, ns, rfl, SqL.of h1, P.finV e (.bl _)⟩
  · exact P.elim
def dIn (d : D) : D → R D
  | .lst ds => if shp d && shp (.lst ds) then .ok (.bl (ds.any fun z => dEqB z d)) else .stuck
  | .str z => (match d with
    | .str ⟨⟨[c]⟩⟩ => .ok (.bl (decide (c ∈ z.cps.toList)))
    | _ => .stuck)
  | _ => .stuck
def dNotIn (d : D) : D → R D
  | .lst ds => if shp d && shp (.lst ds) then .ok (.bl (!ds.any fun z => dEqB z d)) else .stuck
  | _ => .stuck
theorem any_toPys (d : D) : ∀ ds : List D, (toPys ds).any (fun z => PyData.eqv z (toPy d)) = ds.any fun z => dEqB z d
  | [] => rfl
  | x :: xs => by
    show (PyData.eqv (toPy x) (toPy d) || (toPys xs).any _) = (dEqB x d || xs.any _)
    rw [any_toPys d xs]
    rfl
theorem nox_in : NoX dIn := fun a b x h => by
  cases b <;> dsimp only [dIn] at h <;> first | (split at h <;> cases h) | cases h
theorem nox_notIn : NoX dNotIn := fun a b x h => by
  cases b <;> dsimp only [dNotIn] at h <;> first | (split at h <;> cases h) | cases h
theorem opv_in {X : Cx} : OpV X.K (fun x y H Q => rInD X.K x y H Q ∨ ∃ (c : Nat) (z : Str), x = .str ⟨#[c]⟩ ∧ y = .str z ∧ Q (.bl (decide (c ∈ z.cps.toList))) H) .val dIn := by
  intro cl Hs H d1 d2 v1 v2 Q W e b1 b2 P nx
  cases d2 <;> first | exact P.elim | skip
  · cases b2.strInv
    dsimp only [dIn] at P
    split at P
    · rename_i c
      cases b1.strInv
      exact .inr ⟨c, _, rfl, rfl, P.finV e (.bl _)⟩
    · exact P.elim
  rename_i ds
  left
  dsimp only [dIn] at P
  split at P
  · rename_i h
    have h' : shp d1 = true ∧ shp (.lst ds) = true := by simpa using h
    refine ⟨toPy d1, toPys ds, b1.dp e (SeqAt.canLay_of_shaped h'.1), b2.dp e (SeqAt.canLay_of_shaped h'.2), h'.1, h'.2, ?_⟩
    rw [any_toPys]
    exact P.finV e (.bl _)
  · exact P.elim
theorem opv_notIn {X : Cx} : OpV X.K (rNotInD X.K) .val dNotIn := by
  intro cl Hs H d1 d2 v1 v2 Q W e b1 b2 P nx
  cases d2 <;> first | exact P.elim | skip
  rename_i ds
  dsimp only [dNotIn] at P
  split at P
  · rename_i h
    have h' : shp d1 = true ∧ shp (.lst ds) = true := by simpa using h
    refine ⟨toPy d1, toPys ds, b1.dp e (SeqAt.canLay_of_shaped h'.1), b2.dp e (SeqAt.canLay_of_shaped h'.2), h'.1, h'.2, ?_⟩
    rw [any_toPys]
    exact P.finV e (.bl _)
  · exact P.elim

section
variable {α : Type} {lt : α → α → Bool}
end
end VL
end

noncomputable section
namespace VL
open PySem PySem.Spec PyProof.Rows L2
variable {md : Md}

/-- the built-in names that no text here stores -/
structure Bl (mg : Str → Option Value) : Prop where
  len : mg "len" = none
  range : mg "range" = none
  min : mg "min" = none
  max : mg "max" = none
  abs : mg "abs" = none
  sum : mg "sum" = none
  all : mg "all" = none
  any : mg "any" = none
  sorted : mg "sorted" = none
  list : mg "list" = none
  tuple : mg "tuple" = none
  int : mg "int" = none
  bool : mg "bool" = none
  str : mg "str" = none
  isinstance : mg "isinstance" = none
  zip : mg "zip" = none
  enumerate : mg "enumerate" = none
  reversed : mg "reversed" = none
  set : mg "set" = none
  dict : mg "dict" = none
theorem _root_.L2.Room.units65 {k : Nat} {A : Around} (r : Room k A) : A.units + 65 < cLine := by have := r.un; omega
section
variable {X : Cx} {E : En} {kr : Kd} {fin : List Kd → Prop} {ks ks' ks1 : List Kd} {st : Stmt} {m : Sl → O} {a b c e e2 tg : Expr} {g g2 ga gb gc : Sl → R D} {pos p p2 : Pos} {md : Bool}
theorem ss_frzB {i : Nat} (h : SS X E kr fin ks st m ks1) (hk : ks1[i]? = some (.own none) := by rfl) : SS X E kr fin ks st m (ks1.set i .val) := by
  refine ⟨fun Hs H r σ W Dn tk S P => ?_⟩
  refine h.run _ _ _ _ _ _ tk S ?_
  cases q : m r with
  | nx r' =>
    rw [q] at P
    intro Hs' H' σ' S'
    obtain ⟨Hs2, S2⟩ := S'.freeze hk rfl
    exact P _ _ _ S2
  | stuck => rw [q] at P; exact P
  | rt d r' => rw [q] at P; exact P
  | exc x r' => rw [q] at P; exact P
/-- a slice of the script -/
@[simp] def dSlS (d : D) (lo hi : Option Int) : R D := match d with
  | .scr ns => .ok (.lst ((cutL ns lo hi).map D.int))
  | _ => .stuck
@[simp] def gSlS (ga : Sl → R D) (gl gh : Sl → R (Option Int)) : Sl → R D := fun r => do
  let d ← ga r
  let l ← gl r
  let h ← gh r
  dSlS d l h
theorem cutV_ints (ns : List Int) (lo hi : Option Int) : cutV (ns.map V.int) lo hi = (cutL ns lo hi).map V.int := by
  unfold cutV cutL
  rw [List.map_take, List.map_drop, List.length_map]
theorem se_slS {lo hi : Option Expr} {gl gh : Sl → R (Option Int)} (hK : E.cl.K = X.K) (ha : SE X E ks .bor a ga) (hl : SO X E ks lo gl) (hh : SO X E ks hi gh) : SE X E ks (.own none) (.Subscript a (.Slice lo hi none p2) pos) (gSlS ga gl gh) := by
  refine ⟨fun Hs H r σ W Q tk S P => ?_⟩
  refine we_of (pe_slice sl_list pe_we po_wo po_wo) ?_
  refine ha.run _ _ _ _ _ _ tk S (Post.imp (F := fun d => gl r >>= fun l => gh r >>= fun h => dSlS d l h) P fun d v Hs1 H1 e1 g1 k1 P1 => ?_)
  refine hl.run _ _ _ _ _ _ tk (S.grow g1) ?_
  cases q : gl r with
  | stuck => rw [q] at P1; exact P1
  | exc x => rw [q] at P1; exact P1
  | ok l =>
    rw [q] at P1
    intro Hs2 H2 g2
    refine hh.run _ _ _ _ _ _ tk ((S.grow g1).grow g2) ?_
    have P2 : Post E.cl (.own none) Hs2 H2 Q (fun c dd H' => W c dd σ H') (gh r >>= fun h => dSlS d l h) := Post.grow (r := gh r >>= fun h => dSlS d l h) P1 g2
    cases q2 : gh r with
    | stuck => rw [q2] at P2; exact P2
    | exc x => rw [q2] at P2; exact P2
    | ok h =>
      rw [q2] at P2
      intro Hs3 H3 g3
      have P3 : Post E.cl (.own none) Hs3 H3 Q (fun c dd H' => W c dd σ H') (dSlS d l h) := Post.grow (r := dSlS d l h) P2 g3
      cases d <;> first | exact P3.elim | skip
      have k3 := (k1.rb.grow g2).grow g3
      cases k3 with
      | val k =>
        cases k with
        | scr h1 =>
          rw [hK] at h1
          refine ⟨_, _, rfl, g3.sub.seq h1, fun q hq => ?_⟩
          rw [cutV_ints]
          exact P3.finL g3.sub hq (RepL.ofInts _)
@[simp] def gChain (f f' : D → D → R D) (ga gb gc : Sl → R D) : Sl → R D := fun r => do
  let a ← ga r
  let b ← gb r
  let z ← f a b
  let k ← asB z
  if k then (do
    let c ← gc r
    f' b c) else .ok (.bl false)
theorem chain_read {rr rr' : R2} {f f' : D → D → R D} (hv : OpV X.K rr .val f) (nx : NoX f) (hv' : OpV X.K rr' .val f') (nx' : NoX f') (ha : SE X E ks .bor a ga) (hb : SE X E ks .bor b gb) (hc : SE X E ks .bor c gc)
    {Hs H : Hp} {r : Sl} {σ : L2.St} {W : WX} {Q : VK} (tk : Takes X W) (S : StRel E Hs H ks r σ) (P : Post E.cl .val Hs H Q (fun c dd H' => W c dd σ H') (gChain f f' ga gb gc r)) : tChain rr rr' (WEx X a) (WEx X b) (WEx X c) σ H Q := by
  refine ha.run _ _ _ _ _ _ tk S (Post.imp (F := fun a => gb r >>= fun b => f a b >>= fun z => asB z >>= fun k => if k then (gc r >>= fun c => f' b c) else .ok (.bl false)) P fun d v Hs1 H1 e1 g1 k1 P1 => ?_)
  refine hb.run _ _ _ _ _ _ tk (S.grow g1) (Post.imp (F := fun b => f d b >>= fun z => asB z >>= fun k => if k then (gc r >>= fun c => f' b c) else .ok (.bl false)) P1 fun d2 v2 Hs2 H2 e2 g2 k2 P2 => ?_)
  refine hv _ _ _ _ _ _ _ _ _ g2.sub (k1.rb.grow g2) k2.rb (Post.imp (F := fun z => asB z >>= fun k => if k then (gc r >>= fun c => f' d2 c) else .ok (.bl false)) P2 fun d3 v3 Hs3 H3 e3 g3 k3 P3 => ?_) (nx _ _)
  cases d3 <;> first | exact P3.elim | skip
  rename_i k
  have rp := k3.rep
  cases rp
  refine ⟨k, rfl, ?_⟩
  cases k with
  | true =>
    refine iteT ?_
    refine hc.run _ _ _ _ _ _ tk (((S.grow g1).grow g2).grow g3) (Post.imp (F := fun c => f' d2 c) P3 fun d4 v4 Hs4 H4 e4 g4 k4 P4 => ?_)
    exact hv' _ _ _ _ _ _ _ _ _ g4.sub ((k2.rb.grow g3).grow g4) k4.rb P4 (nx' _ _)
  | false => exact iteF (Post.finV P3 g3.sub (.bl false))
theorem se_chain {op op' : CmpOp} {rr rr' : R2} {f f' : D → D → R D} (ho : OpR X (compareOp op) rr) (hv : OpV X.K rr .val f) (nx : NoX f) (ho' : OpR X (compareOp op') rr') (hv' : OpV X.K rr' .val f') (nx' : NoX f') (ha : SE X E ks .bor a ga) (hb : SE X E ks .bor b gb) (hc : SE X E ks .bor c gc) (hm : lastMarks [op, op'] [b, c] = false := by with_unfolding_all rfl) :
    SE X E ks .val (.Compare a [op, op'] [b, c] pos) (gChain f f' ga gb gc) := ⟨fun Hs H r σ W Q tk S P => we_of (pe_chain ho ho' pe_we pe_we pe_we hm) (chain_read hv nx hv' nx' ha hb hc tk S P)⟩
theorem st_chain {op op' : CmpOp} {rr rr' : R2} {f f' : D → D → R D} (ho : OpR X (compareOp op) rr) (hv : OpV X.K rr .val f) (nx : NoX f) (ho' : OpR X (compareOp op') rr') (hv' : OpV X.K rr' .val f') (nx' : NoX f') (ha : SE X E ks .bor a ga) (hb : SE X E ks .bor b gb) (hc : SE X E ks .bor c gc) (hm : lastMarks [op, op'] [b, c] = false := by with_unfolding_all rfl) :
    ST X E ks (.Compare a [op, op'] [b, c] pos) (gTest (gChain f f' ga gb gc)) := by
  refine ⟨fun Hs H r σ W Q tk S P => ?_⟩
  refine wt_of (pt_chain ho ho' pe_we pe_we pe_we hm) ?_
  refine chain_read hv nx hv' nx' ha hb hc tk S (Post.ofT P fun d v Hs' H' e1 g1 k1 P1 => ?_)
  cases d <;> first | exact P1.elim | skip
  have rp := k1.rep
  cases rp
  exact ⟨_, rfl, P1 Hs' H' (Grow.refl g1.sub)⟩
end

section
variable {X : Cx} {E : En} {ks : List Kd} {e : Expr} {es : List Expr} {t : Sl → R (List D)} {p pos : Pos}
theorem sf_Len (B : Bl X.mg) (ha : SA X E ks [false] (e :: es) t) (hc : X.calm = true := by rfl) (hg : Gl X "len" := by rfl) (he : starEach (e :: es) X.env = (false, eval e X.env) :: starEach es X.env := by rfl) (hpl : (backTo pos (starEach es X.env)).any (·.1) = false := by rfl) : SE X E ks (.val) (.Call (.Name "len" p) (e :: es) [] pos) (gCall fLen t) :=
  se_callB (call_len.or call_lenR) callv_len B.len bb_len ha hg bn_len bd_len he hpl
theorem sf_All (B : Bl X.mg) (ha : SA X E ks [false] (e :: es) t) (hc : X.calm = true := by rfl) (hg : Gl X "all" := by rfl) (he : starEach (e :: es) X.env = (false, eval e X.env) :: starEach es X.env := by rfl) (hpl : (backTo pos (starEach es X.env)).any (·.1) = false := by rfl) : SE X E ks (.val) (.Call (.Name "all" p) (e :: es) [] pos) (gCall fAll t) :=
  se_callB (cr_all hc) callv_all B.all bb_all ha hg bn_all bd_all he hpl
theorem sf_List (B : Bl X.mg) (ha : SA X E ks [false] (e :: es) t) (hc : X.calm = true := by rfl) (hg : Gl X "list" := by rfl) (he : starEach (e :: es) X.env = (false, eval e X.env) :: starEach es X.env := by rfl) (hpl : (backTo pos (starEach es X.env)).any (·.1) = false := by rfl) : SE X E ks (.own none) (.Call (.Name "list" p) (e :: es) [] pos) (gCall fList t) :=
  se_callTy call_list_of callv_list B.list bb_list ha hg bn_list bd_list he hpl
theorem sf_Tuple (B : Bl X.mg) (ha : SA X E ks [false] (e :: es) t) (hc : X.calm = true := by rfl) (hg : Gl X "tuple" := by rfl) (he : starEach (e :: es) X.env = (false, eval e X.env) :: starEach es X.env := by rfl) (hpl : (backTo pos (starEach es X.env)).any (·.1) = false := by rfl) : SE X E ks (.val) (.Call (.Name "tuple" p) (e :: es) [] pos) (gCall fTuple t) :=
  se_callTy call_tuple_of callv_tuple B.tuple bb_tuple ha hg bn_tuple bd_tuple he hpl
theorem sf_Int (B : Bl X.mg) (ha : SA X E ks [false] (e :: es) t) (hc : X.calm = true := by rfl) (hg : Gl X "int" := by rfl) (he : starEach (e :: es) X.env = (false, eval e X.env) :: starEach es X.env := by rfl) (hpl : (backTo pos (starEach es X.env)).any (·.1) = false := by rfl) : SE X E ks (.val) (.Call (.Name "int" p) (e :: es) [] pos) (gCall fInt t) :=
  se_callTy (call_int1.or call_int_str) callv_int B.int bb_int ha hg bn_int bd_int he hpl
theorem si_list {p1 p2 : Pos} {g : Sl → R D} (B : Bl X.mg) (he : SE X E ks .bor e g) (hg : Gl X "isinstance" := by rfl) (hgT : Gl X "list" := by rfl) (hs : starEach [e, .Name "list" p2] X.env = (false, eval e X.env) :: starEach [.Name "list" p2] X.env := by rfl) (hs2 : starEach [.Name "list" p2] X.env = (false, eval (.Name "list" p2) X.env) :: starEach [] X.env := by rfl) (hpl : (backTo pos (starEach [.Name "list" p2] X.env)).any (·.1) = false := by rfl) :
    SE X E ks .val (.Call (.Name "isinstance" p1) [e, .Name "list" p2] [] pos) (gUn (dIs .list) g) := se_isi .list he B.isinstance B.list bb_list bn_list bd_list hg hgT hs hs2 hpl
theorem si_tuple {p1 p2 : Pos} {g : Sl → R D} (B : Bl X.mg) (he : SE X E ks .bor e g) (hg : Gl X "isinstance" := by rfl) (hgT : Gl X "tuple" := by rfl) (hs : starEach [e, .Name "tuple" p2] X.env = (false, eval e X.env) :: starEach [.Name "tuple" p2] X.env := by rfl) (hs2 : starEach [.Name "tuple" p2] X.env = (false, eval (.Name "tuple" p2) X.env) :: starEach [] X.env := by rfl) (hpl : (backTo pos (starEach [.Name "tuple" p2] X.env)).any (·.1) = false := by rfl) :
    SE X E ks .val (.Call (.Name "isinstance" p1) [e, .Name "tuple" p2] [] pos) (gUn (dIs .tuple) g) := se_isi .tuple he B.isinstance B.tuple bb_tuple bn_tuple bd_tuple hg hgT hs hs2 hpl
theorem si_bool {p1 p2 : Pos} {g : Sl → R D} (B : Bl X.mg) (he : SE X E ks .bor e g) (hg : Gl X "isinstance" := by rfl) (hgT : Gl X "bool" := by rfl) (hs : starEach [e, .Name "bool" p2] X.env = (false, eval e X.env) :: starEach [.Name "bool" p2] X.env := by rfl) (hs2 : starEach [.Name "bool" p2] X.env = (false, eval (.Name "bool" p2) X.env) :: starEach [] X.env := by rfl) (hpl : (backTo pos (starEach [.Name "bool" p2] X.env)).any (·.1) = false := by rfl) :
    SE X E ks .val (.Call (.Name "isinstance" p1) [e, .Name "bool" p2] [] pos) (gUn (dIs .bool) g) := se_isi .bool he B.isinstance B.bool bb_bool bn_bool bd_bool hg hgT hs hs2 hpl
theorem si_str {p1 p2 : Pos} {g : Sl → R D} (B : Bl X.mg) (he : SE X E ks .bor e g) (hg : Gl X "isinstance" := by rfl) (hgT : Gl X "str" := by rfl) (hs : starEach [e, .Name "str" p2] X.env = (false, eval e X.env) :: starEach [.Name "str" p2] X.env := by rfl) (hs2 : starEach [.Name "str" p2] X.env = (false, eval (.Name "str" p2) X.env) :: starEach [] X.env := by rfl) (hpl : (backTo pos (starEach [.Name "str" p2] X.env)).any (·.1) = false := by rfl) :
    SE X E ks .val (.Call (.Name "isinstance" p1) [e, .Name "str" p2] [] pos) (gUn (dIs .str) g) := se_isi .str he B.isinstance B.str bb_str bn_str bd_str hg hgT hs hs2 hpl
theorem si_int {p1 p2 : Pos} {g : Sl → R D} (B : Bl X.mg) (he : SE X E ks .bor e g) (hg : Gl X "isinstance" := by rfl) (hgT : Gl X "int" := by rfl) (hs : starEach [e, .Name "int" p2] X.env = (false, eval e X.env) :: starEach [.Name "int" p2] X.env := by rfl) (hs2 : starEach [.Name "int" p2] X.env = (false, eval (.Name "int" p2) X.env) :: starEach [] X.env := by rfl) (hpl : (backTo pos (starEach [.Name "int" p2] X.env)).any (·.1) = false := by rfl) :
    SE X E ks .val (.Call (.Name "isinstance" p1) [e, .Name "int" p2] [] pos) (gUn (dIs .int) g) := se_isi .int he B.isinstance B.int bb_int bn_int bd_int hg hgT hs hs2 hpl
end
/-- how often a while may turn here -/
def WB : Nat := Classical.choose (oN_ex 100000)
theorem WB_eq : WB = 100000 := Classical.choose_spec (oN_ex 100000)
theorem fi_stuck {P : Program} {w : World} {K : PySem.W.Frag} {mg : Str → Option Value} {base : Heap} {cl : Cl} {x : Str} {k : Nat} {bs : List Bool} {kr : Kd} {fa : Addr} {fd : FuncData} {ps : List Str} (gm : mg x = some (.ref fa)) (kp : PySem.W.keepIn K (.ref fa) = true) (bn : Binds K fd ps []) :
    Fi P w K mg base cl x k bs kr (fun _ => .stuck) :=
  ⟨fa, fd, ps, ⟨fun vs H Q E ⟨ds, Hs, _, _, z⟩ => z.elim, fun A outer s H args us vs Q E _ _ _ _ ⟨ds, Hs, _, _, z⟩ => z.elim⟩, gm, kp, bn⟩
end VL
end

noncomputable section
namespace VL
open PySem PySem.Spec PyProof.Rows L2
variable {md : Md}

theorem whileL_inv (I : Sl → Prop) (μ : Sl → Nat) {tc : Sl → R Bool} {mb : Sl → O} (st : ∀ r, I r → ∃ b, tc r = .ok b ∧ (b = true → ∃ r', mb r = .nx r' ∧ I r' ∧ μ r' < μ r)) : ∀ (n : Nat) (r : Sl), I r → μ r < n → ∃ r', whileL tc mb n r = .nx r' ∧ I r' ∧ tc r' = .ok false
  | 0, r, _, h => absurd h (Nat.not_lt_zero _)
  | n + 1, r, hi, h => by
    obtain ⟨b, e, k⟩ := st r hi
    cases b with
    | false =>
      refine ⟨r, ?_, hi, e⟩
      unfold whileL
      rw [e]
      rfl
    | true =>
      obtain ⟨r', e2, hi', hm⟩ := k rfl
      obtain ⟨r'', e3, h3, h4⟩ := whileL_inv I μ st n r' hi' (by omega)
      refine ⟨r'', ?_, h3, h4⟩
      unfold whileL
      rw [e]
      show (match mb r with
        | .nx r' => whileL tc mb n r'
        | o => o) = _
      rw [e2]
      exact e3
/-- a comprehension over what is walked -/
theorem mapR_map {α β γ : Type} {f : α → R β} {l : List γ} {F : γ → α} {G : γ → β} (h : ∀ x ∈ l, f (F x) = .ok (G x)) : mapR f (l.map F) = .ok (l.map G) := by
  induction l with
  | nil => rfl
  | cons x l ih =>
    rw [List.map_cons]
    unfold mapR
    rw [h x List.mem_cons_self, ih fun y hy => h y (List.mem_cons_of_mem _ hy)]
    rfl
theorem gComp_map {γ : Type} {gi : Sl → R (List D)} {t : Tg} {vs : List Nat} {tt : Sl → R Bool} {ge : Sl → R D} {r : Sl} {l : List γ} {F : γ → D} {G : γ → D} (h : gi r = .ok (l.map F)) (hg : ∀ x ∈ l, gTurn t vs tt ge r (F x) = .ok (some (G x))) : gComp gi t vs tt ge r = .ok (.lst (l.map G)) := by
  unfold gComp
  rw [h]
  show (noX (mapR (gTurn t vs tt ge r) (l.map F)) >>= fun os => R.ok (D.lst (os.filterMap id))) = _
  rw [mapR_map (G := fun x => some (G x)) hg]
  show R.ok (D.lst ((l.map fun x => some (G x)).filterMap id)) = _
  rw [List.filterMap_map]
  congr 2
  induction l with
  | nil => rfl
  | cons x l ih =>
    rw [List.map_cons, List.filterMap_cons]
    simp
@[simp] theorem lt_n30 {k : Nat} (h : k < 1073741824) : k < n30 := by rw [n30_val]; exact h
@[simp] theorem lt_n64 {k : Nat} (h : k < 18446744073709551616) : k < n64 := by rw [n64_val]; exact h
@[simp] theorem le_iMil {k : Int} (h : k ≤ 1000000) : k ≤ iMil := by rw [iMil_val]; exact h
@[simp] theorem le_szL' {k : Nat} (h : k ≤ 16777216) : k ≤ szL := le_szL h
@[simp] theorem lt_szL' {k : Nat} (h : k < 16777216) : k < szL := lt_szL h
theorem mulOk_left {a b : Int} (h1 : -(2 ^ 64) < a) (h2 : a < 2 ^ 64) : mulOk a b = true := by
  unfold mulOk
  rw [i64_val, decide_eq_true h1, decide_eq_true h2]
  rfl
theorem mulOk_right {a b : Int} (h1 : -(2 ^ 64) < b) (h2 : b < 2 ^ 64) : mulOk a b = true := by
  unfold mulOk
  rw [i64_val, decide_eq_true h1, decide_eq_true h2]
  cases (decide (-(2 ^ 64) < a) && decide (a < 2 ^ 64)) <;> rfl
theorem fmod_pos {a b : Int} (hb : 0 < b) : 0 ≤ a.fmod b ∧ a.fmod b < b := ⟨Int.fmod_nonneg_of_pos a hb, Int.fmod_lt_of_pos a hb⟩
theorem dPow_ok {a : Int} {k : Nat} (h1 : k ≤ 1000000) (h2 : a.natAbs < 2 ^ 64) : dPow (.int a) (.int k) = .ok (.int (a ^ k)) := by
  dsimp only [dPow]
  rw [if_pos ⟨Int.natCast_nonneg k, by rw [iMil_val]; omega, by rw [n64_val]; exact h2⟩, Int.toNat_natCast]
theorem dRange1_nat {n : Nat} (h : n ≤ 16777216) : dRange1 (.int (n : Int)) = .ok ((List.range n).map fun (i : Nat) => D.int i) := by
  dsimp only [dRange1]
  rw [if_pos (by rw [Int.toNat_natCast, szL_val]; exact h)]
  unfold rangeD
  rw [Int.toNat_natCast]
  simp
theorem range_split (n : Nat) : List.range n = List.range' 0 n := List.range_eq_range'
theorem seq_nx {m1 m2 : Sl → O} {r r' : Sl} (h : m1 r = .nx r') : mSeq m1 m2 r = m2 r' := by
  unfold mSeq
  rw [h]
theorem cutL_from {α : Type} {xs : List α} {k : Nat} (h : k ≤ xs.length) {i : Int} (hi : i = (k : Int) := by rfl) : cutL xs (some i) none = xs.drop k := by
  subst hi
  unfold cutL
  rw [HT.sIx_nat, HT.sIx_none, Nat.min_eq_left h, List.take_of_length_le (by rw [List.length_drop]; omega)]
theorem cutL_to {α : Type} {xs : List α} {k : Nat} {i : Int} (hi : i = (k : Int) := by rfl) : cutL xs none (some i) = xs.take k := by
  subst hi
  unfold cutL
  rw [HT.sIx_nat, HT.sIx_none, List.drop_zero, Nat.sub_zero]
  rcases Nat.le_total k xs.length with h | h
  · rw [Nat.min_eq_left h]
  · rw [Nat.min_eq_right h, List.take_length, List.take_of_length_le h]
@[simp] theorem dEq_int (a b : Int) : dEq (.int a) (.int b) = .ok (.bl (a == b)) := rfl
@[simp] theorem dNe_int (a b : Int) : dNe (.int a) (.int b) = .ok (.bl (!(a == b))) := rfl
@[simp] theorem dEq_bl (a b : Bool) : dEq (.bl a) (.bl b) = .ok (.bl (a == b)) := rfl
@[simp] theorem dNe_bl (a b : Bool) : dNe (.bl a) (.bl b) = .ok (.bl (!(a == b))) := rfl
/-- what is plain data of a depth below n -/
def pl : Nat → D → Bool
  | 0, _ => false
  | n + 1, .lst xs => xs.all (pl n) && decide (xs.length ≤ szL)
  | n + 1, .tup xs => xs.all (pl n) && decide (xs.length ≤ szL)
  | _ + 1, .str x => (PyData.str x).canLay0 && decide (x.length ≤ szL)
  | _ + 1, .dct _ => false
  | _ + 1, .obj _ _ => false
  | _ + 1, .scr _ => false
  | _ + 1, _ => true
theorem toPys_lay : ∀ {ds : List D}, (∀ d ∈ ds, (toPy d).canLay0 = true) → PyData.canLayAll0 (toPys ds) = true
  | [], _ => rfl
  | d :: ds, h => by
    show ((toPy d).canLay0 && PyData.canLayAll0 (toPys ds)) = true
    rw [h d List.mem_cons_self, toPys_lay fun x hx => h x (List.mem_cons_of_mem _ hx)]
    rfl
theorem toPys_depth {n : Nat} : ∀ {ds : List D}, (∀ d ∈ ds, (toPy d).depth ≤ n) → PyData.depthAll (toPys ds) ≤ n
  | [], _ => Nat.zero_le _
  | d :: ds, h => by
    show max (toPy d).depth (PyData.depthAll (toPys ds)) ≤ n
    exact Nat.max_le.mpr ⟨h d List.mem_cons_self, toPys_depth fun x hx => h x (List.mem_cons_of_mem _ hx)⟩
theorem pl_lay : ∀ (n : Nat) (d : D), pl n d = true → (toPy d).canLay0 = true ∧ (toPy d).depth ≤ n
  | 0, _, h => by cases h
  | n + 1, .lst xs, h => by
    have h' : xs.all (pl n) = true := by
      have q : (xs.all (pl n) && decide (xs.length ≤ szL)) = true := h
      exact (Bool.and_eq_true_iff.mp q).1
    have k : ∀ d ∈ xs, (toPy d).canLay0 = true ∧ (toPy d).depth ≤ n := fun d hd => pl_lay n d (List.all_eq_true.mp h' d hd)
    exact ⟨toPys_lay fun d hd => (k d hd).1, Nat.succ_le_succ (toPys_depth fun d hd => (k d hd).2)⟩
  | n + 1, .tup xs, h => by
    have h' : xs.all (pl n) = true := by
      have q : (xs.all (pl n) && decide (xs.length ≤ szL)) = true := h
      exact (Bool.and_eq_true_iff.mp q).1
    have k : ∀ d ∈ xs, (toPy d).canLay0 = true ∧ (toPy d).depth ≤ n := fun d hd => pl_lay n d (List.all_eq_true.mp h' d hd)
    exact ⟨toPys_lay fun d hd => (k d hd).1, Nat.succ_le_succ (toPys_depth fun d hd => (k d hd).2)⟩
  | _ + 1, .str x, h => by
    have q : ((PyData.str x).canLay0 && decide (x.length ≤ szL)) = true := h
    exact ⟨(Bool.and_eq_true_iff.mp q).1, Nat.zero_le _⟩
  | _ + 1, .dct _, h => by cases h
  | _ + 1, .obj _ _, h => by cases h
  | _ + 1, .scr _, h => by cases h
  | _ + 1, .non, _ => ⟨rfl, Nat.zero_le _⟩
  | _ + 1, .bl _, _ => ⟨rfl, Nat.zero_le _⟩
  | _ + 1, .int _, _ => ⟨rfl, Nat.zero_le _⟩
theorem pl_shp {n : Nat} {d : D} (hn : n ≤ 64) (h : pl n d = true) : shp d = true := by
  obtain ⟨a, b⟩ := pl_lay n d h
  unfold shp SeqAt.shaped
  rw [a, decide_eq_true (Nat.le_trans b hn)]
  rfl
mutual
theorem eqv_self : ∀ (d : D), (toPy d).canLay0 = true → PyData.eqv (toPy d) (toPy d) = true
  | .non, _ => rfl
  | .bl b, _ => by show (b == b) = true; simp
  | .int i, _ => by show (i == i) = true; simp
  | .str x, _ => by show (x == x) = true; simp
  | .lst xs, h => eqvAll_self xs h
  | .tup xs, h => eqvAll_self xs h
  | .dct _, h => by cases h
  | .obj _ _, h => by cases h
  | .scr _, h => by cases h
theorem eqvAll_self : ∀ (ds : List D), PyData.canLayAll0 (toPys ds) = true → PyData.eqvAll (toPys ds) (toPys ds) = true
  | [], _ => rfl
  | d :: ds, h => by
    have q : ((toPy d).canLay0 && PyData.canLayAll0 (toPys ds)) = true := h
    obtain ⟨a, b⟩ := Bool.and_eq_true_iff.mp q
    show (PyData.eqv (toPy d) (toPy d) && PyData.eqvAll (toPys ds) (toPys ds)) = true
    rw [eqv_self d a, eqvAll_self ds b]
    rfl
end
theorem dEq_self {n : Nat} {d : D} (hn : n ≤ 64) (h : pl n d = true) : dEq d d = .ok (.bl true) := by
  unfold dEq dEqB
  rw [pl_shp hn h, eqv_self d (pl_lay n d h).1]
  rfl
end VL
end

noncomputable section
namespace VL
open PySem PySem.Spec PyProof.Rows L2
open ModeZ

/-- where a def stands -/
structure AtF (K : PySem.W.Frag) (mg : Str → Option Value) (x qual : Str) (st : Stmt) : Prop where
  ex : ∃ fa fd, Fun K x qual st fa fd ∧ mg x = some (.ref fa)
theorem at_mk {K : PySem.W.Frag} {h : Heap} {mg : Str → Option Value} (X : K.In h) (G : h.Ns mainGlobals mg) {x qual : Str} {st : Stmt} {f : Addr} {od an : Option Addr} {sl : Array (Option Value)} {oc kV dc pm cd ct : Value}
    (a : PySem.W.nsIn K mainGlobals x = some (some (.ref f))) (l : K.lookup f = some ⟨oc, od, .func (PySem.W.fnOf x qual (defArgs st) (defBody st) (defScope st) .none kV dc pm an cd ct), sl⟩) (c : PySem.W.codeIn K cd qual = true) (k : PySem.W.keepIn K (.ref f) = true) :
    AtF K mg x qual st := ⟨f, _, fun_mk l c k, PySem.W.mg_of X G a⟩
def spLaw (K : PySem.W.Frag) : Sp := fun vs H Q _ => ∃ (a : Addr) (ns : List Int), vs = [.ref a] ∧ SqL K H a (ns.map V.int) ∧ ns.length ≤ 63 ∧ ∀ H', Q (.bl true) H'
theorem cx_no {P : Program} {w : World} {outer : List Env} {H : Hp} {s s' : Shared} {u : Value} (h : L2.CX P w outer H s (fun _ _ _ => False) u s') : False := by
  obtain ⟨a, B, H', cls, d, h⟩ := h
  exact h.2.2.2.2.2.2.2
/-- a law's promise by its plain half -/
theorem law_end {P : Program} {w : World} {K : PySem.W.Frag} {mg : Str → Option Value} {base : Heap} {cl : Cl} {k : Nat} {b : Bool} {f : List D → R D} {fa : Addr} {fd : FuncData} {x : Str} (hK : cl.K = K) (F : FnOk P w K mg base (L2.CX P w) k fa fd [x] (spV cl [b] .val f))
    (hf : ∀ ns : List Int, ns.length ≤ 63 → f [.scr ns] = .ok (.bl true)) (hk : k ≤ 65) : FnOk P w K mg base (L2.CX P w) 65 fa fd [x] (spLaw K) := by
  refine (F.mono hk).imp ?_
  intro vs H Q E ⟨a, ns, e, hs, hl, q⟩
  subst e
  refine ⟨[.scr ns], H, Same.refl _, ?_, ?_⟩
  · have r : Rep cl H (.scr ns) (.ref a) := .scr (by rw [hK]; exact hs)
    cases b with
    | true => exact .val r .nil
    | false => exact .bor (.val r) .nil
  · rw [hf ns hl]
    intro v Hs' H' g rk
    obtain ⟨A, o, _⟩ := rk
    cases o with
    | val r =>
      cases r
      exact q H'
theorem law_walk {l : PySem.W.OpenLaw} {q : Program} {loose : List Str} {XP : (Str → Option Value) → Heap → Prop} {YP : World → Heap → Prop} {d : DefRec} {K : Params → PySem.W.Frag} {x : Str} (hn : l.most = some 63) (hdf : d.params.defaults = [])
    (hY : ∀ (w : World) (h : Heap), YP w h → (K w.params).In h)
    (F : ∀ (w : World) (mg : Str → Option Value) (fa : Addr) (h : Heap), (K w.params).In h → h.Ns mainGlobals mg → mg d.name = some (.ref fa) →
      ∃ fd : FuncData, (∀ (s : Shared) (u : Value), BindsTo s fd ⟨[u], []⟩ [(x, u)]) ∧ ∀ base : Heap, (K w.params).In base → base.Ns mainGlobals mg → FnOk l.prog w (K w.params) mg base (L2.CX l.prog w) 65 fa fd [x] (spLaw (K w.params))) :
    PySem.W.WalkO q loose XP YP l.row.toRowW d [] (fun f vs => PySem.call f vs) :=
  L2.walk_of (n := 63) (k := 65) (x := x) (CX := fun w => L2.CX l.prog w) (sp := fun w => spLaw (K w.params)) hn (by decide) hdf ⟨rfl, by decide, by decide⟩ hY F (fun _ _ a ns hl _ hS => ⟨a, ns, rfl, hS, hl, fun _ => rfl⟩) fun _ _ _ _ _ z => cx_no z
end VL
end

noncomputable section
namespace VL
open PySem PySem.Spec PyProof.Rows L2
variable {md : Md}

section
variable {prog : Program} {w : World} {A : Around} {R : Result → Shared → Prop} {I S : Addr} {fp wr : List Addr} {n : Nat} {P : Nat → Value → Prop} {St : Nat → Heap → Prop} {bt : Nat → Nat → Bool} {kw : List (Str × Value)} {E : Value → Shared → Prop}
end

section
variable {prog : Program} {w : World} {A : Around} {R : Result → Shared → Prop} {I S : Addr} {fp wr : List Addr} {n : Nat} {P : Nat → Value → Prop} {St : Nat → Heap → Prop} {bt : Nat → Nat → Bool} {kw : List (Str × Value)} {E : Value → Shared → Prop}
end

end VL
end

noncomputable section
namespace VL
open PySem PySem.Spec PyProof.Rows L2
variable {md : Md}
section
variable {X : Cx} {E : En} {ks : List Kd} {e e0 : Expr} {g g0 : Sl → R D} {p pos kp : Pos}
end
end VL
end

noncomputable section
namespace VL
open PySem PySem.Spec PyProof.Rows L2
variable {md : Md}

section
variable {X : Cx} {E : En} {kr : Kd} {fin : List Kd → Prop} {ks ks' : List Kd} {e : Expr} {g : Sl → R D} {pos : Pos}
end
end VL
end

noncomputable section
namespace VL
open PySem PySem.Spec PyProof.Rows L2
variable {md : Md}

theorem upd_comm {H : Hp} {a b : Addr} {o u : HO} (h : a ≠ b) : upd (upd H a o) b u = upd (upd H b u) a o := by
  funext c
  by_cases h1 : c = a
  · rw [h1, upd_ne h, upd_same, upd_same]
  · rw [upd_ne h1]
    by_cases h2 : c = b
    · rw [h2, upd_same, upd_same]
    · rw [upd_ne h2, upd_ne h2, upd_ne h1]
theorem xat_mk {P : Program} {w : World} {K : PySem.W.Frag} {mg : Str → Option Value} {base : Heap} {cl : Cl} {C qual : Str} {a fI : Addr} {fd : FuncData} {st : Stmt} {p p1 p2 p3 : Pos} (T : OexC K a) (hcl : cl.f C = some a) (gm : mg C = some (.ref a))
    (iC : PySem.W.findIn K (.ref a) "__init__" = some (some (.ref fI))) (tI : PySem.W.typeIn K (.ref fI) = some (.type "function")) (hno : PySem.W.findIn K (.ref a) "at" = some none)
    (F : Fun K "__init__" qual st fI fd) (S : FnScope ["self", "at"] ["self", "at"] (defScope st)) (bn : Binds K fd ["self", "at"] []) (hb : defBody st = [.Assign [.Attribute (.Name "self" p1) "at" p2] (.Name "at" p3) p])
    (v1 : Vis (defScope st) "self") (v2 : Vis (defScope st) "at")
    (hs : ∀ X : Cx, X.env.scope = defScope st → swapsWith (.Name "at" p3) (some (.Attribute (.Name "self" p1) "at" p2)) p.line X.env = pure false) : XAt P w K mg base cl C 1 := by
  refine ⟨a, fI, fd, ["self", "at"], hcl, gm, T, iC, tI, bn, F.ok S (fun vs H Q E ⟨x, v, e, _⟩ => by rw [e] <;> rfl) fun cdv A outer s H vs Q E hr ⟨x, v, e, hx, q⟩ => ?_⟩
  subst e
  rw [hb]
  refine ⟨_, pss_one (ps_ost (pe_var (i := 0) rfl v1 (by decide) (by decide)) (pe_var (i := 1) rfl v2 (by decide) (by decide)) (hs _ rfl)), ?_⟩
  refine ⟨v, rfl, .ref x, rfl, x, a, rfl, T, hno, .inl ⟨hx, fun dx hd ne => ?_⟩⟩
  have := q dx hd ne
  rw [upd_comm (Ne.symm ne)] at this
  exact this
end VL
end

noncomputable section
namespace VL
open PySem PySem.Spec PyProof.Rows L2
open ModeZ

abbrev HdT := Value × Option Nat × (Addr → Value → Option Addr → TS)
/-- the ends of a suite: its name is gone -/
def endsOf : Option Nat → Ends → Ends
  | none, D => D
  | some i, D => { nx := fun u q => D.nx (u.set i none) q, rt := D.rt, bk := fun u q => D.bk (u.set i none) q, ct := fun u q => D.ct (u.set i none) q }
def slotOf : Option Nat → Addr → L2.St → L2.St
  | none, _, σ => σ
  | some i, a, σ => σ.set i (some (.ref a))
/-- what the clauses wish, one behind the other -/
def wAll (K : PySem.W.Frag) (Wo : WX) (D : Ends) : List HdT → WX
  | [] => Wo
  | (c, o, ts) :: l => fun cls d σ H => ∃ b, PySem.W.exmOne K cls c = some b ∧ (b = true → ∀ a, H a = none → ts a cls d (endsOf o D) (slotOf o a σ) H) ∧ (b = false → wAll K Wo D l cls d σ H)
inductive HdsAll (X : Cx) : List ExceptHandler → List HdT → Prop
  | nil : HdsAll X [] []
  | bare {x : Str} {c : Value} {ts : Addr → Value → Option Addr → TS} {b0 : Stmt} {su : List Stmt} {p1 p2 : Pos} {hds : List ExceptHandler} {l : List HdT} (hc : Names X x c)
      (hsu : ∀ (a : Addr) (oe : Obj) (cls : Value) (d : Option Addr) (pn : List (Addr × Obj)), Zc cls d oe → (∃ vs, oe.data = .fields vs) → PSs (X.suite a ((a, oe) :: pn)) (b0 :: su) (ts a cls d)) (rest : HdsAll X hds l) :
      HdsAll X (.ExceptHandler (some (.Name x p1)) none (b0 :: su) p2 :: hds) ((c, none, ts) :: l)
  | named {x n : Str} {i : Nat} {c : Value} {ts : Addr → Value → Option Addr → TS} {b0 : Stmt} {su : List Stmt} {p1 p2 : Pos} {hds : List ExceptHandler} {l : List HdT} (hN : X.N.Nodup) (hi : X.N[i]? = some n) (hl : X.env.kindOf n = some .local) (hc : Names X x c)
      (hsu : ∀ (a : Addr) (oe : Obj) (cls : Value) (d : Option Addr) (pn : List (Addr × Obj)), Zc cls d oe → (∃ vs, oe.data = .fields vs) → PSs (X.suite a ((a, oe) :: pn)) (b0 :: su) (ts a cls d)) (rest : HdsAll X hds l) :
      HdsAll X (.ExceptHandler (some (.Name x p1)) (some n) (b0 :: su) p2 :: hds) ((c, some i, ts) :: l)
section
variable {X : Cx} {body : List Stmt} {hd0 : ExceptHandler} {hds : List ExceptHandler} {l : List HdT} {pos : Pos} {tb : WX → TS} {Wo : WX}
theorem ps_try_all (st : X.stack = X.env :: X.outer) (fr : X.env.frame = some X.env.locals) (tk : L2.Takes X Wo)
    (hbody : ∀ (W : WX) (pn : List (Addr × Obj)) (xe : Value → Shared → Prop), L2.Takes (X.tr pn xe) W → PassesOwn (model X.prog X.w) X.A X.env xe → PSs (X.tr pn xe) body (tb W))
    (hall : HdsAll X (hd0 :: hds) l) : PS X (.Try body (hd0 :: hds) [] [] pos) (fun D σ H => tb (wAll X.K Wo D l) D σ H) := by
  refine ⟨fun pins s σ H D I hq0 => ?_⟩
  have okX := I.ok
  have framesX : X.A.frames = some (X.env :: X.outer) := by rw [okX.frames, st]
  refine wpAny_Try_except ?_
  refine wpAny_mono ((hbody (wAll X.K Wo D l) (X.pn ++ pins) (fun ex w1 => wpAny (model X.prog X.w) X.A (noteFrame ex X.env) (fun _ w2 => wpAny (model X.prog X.w) X.A (setFlight ex none) (fun _ w3 =>
    wpAny (model X.prog X.w) X.A (handleBy ex X.env (hd0 :: hds)) (SP X pins D) X.xe w3) X.xe w2) X.xe w1) (fun u s2 caught => ?_) PassesOwn.looking).run [] s σ H D (I.toTry _) hq0) (fun fl w1 done => ?_) (fun ex w1 z => z)
  · obtain ⟨a, B, sI, pins2, σ2, H2, cls, d, rfl, J0, nbare, upw, skyw, fresh, oseq, agr, want⟩ := caught
    have J : Inv X pins σ2 H2 sI := J0.ofTry okX
    have skyx : Sky B (X.env :: X.outer) a (Zc cls d) X.env.locals s2.heap := by rw [← st]; exact skyw
    show wpAny (model X.prog X.w) X.A (noteFrame (.ref a) X.env) _ _ _
    refine Sky.land Zc.steady framesX fr skyx fun hp3 fly3 up3 => ?_
    have JL : Inv X pins σ2 H2 { s2 with heap := hp3 } := J.landed nbare fly3.1 (upw.trans up3) oseq agr
    obtain ⟨oe3, vs3, get3, zc3, dat3⟩ := fly3.there
    have apart : ∀ {h : Heap} {o : Obj} {vs : Array Value}, h.FunFrames B (X.env :: X.outer) → h.get? a = some o → o.data = .fields vs → a ∉ frs (X.env :: X.outer) := fun {h o vs} ff eo ed mem => by
      obtain ⟨_, o2, eo2, no⟩ := ff.mem mem
      cases eo.symm.trans eo2
      exact no _ ed
    have nfr := apart fly3.2.2.1 get3 dat3
    have nloc : a ≠ X.env.locals := fun z => nfr (List.mem_filterMap.mpr ⟨X.env, List.mem_cons_self, by rw [fr, z]⟩)
    have nout : a ∉ X.fs := fun mem => by
      obtain ⟨en, hen, qen⟩ := List.mem_filterMap.mp mem
      exact nfr (List.mem_filterMap.mpr ⟨en, List.mem_cons_of_mem _ hen, qen⟩)
    have JS := JL.suite get3 dat3 fresh nloc nout
    have LT : PySem.W.Looks (model X.prog X.w) hp3 (typeOf (.ref a)) cls := fun A Q E s k q => wpAny_typeOf_ref (k _ _ get3) (by rw [zc3.1]; exact q)
    -- a clause's class is looked up
    have clause : ∀ {x : Str} {c : Value} {np : Pos}, Names X x c → ∀ {Q : Value → Shared → Prop} {E : Value → Shared → Prop}, Q c { s2 with heap := hp3 } → wpAny (model X.prog X.w) (X.A.mark (some (.ref a))) (eval (.Name x np) X.env) Q E { s2 with heap := hp3 } := fun {x c np} hc {Q E} q => by
      obtain ⟨gx, dx, gm | ⟨gm, gv, nn⟩⟩ := hc
      · exact ld_glob (X := X.suite a ((a, oe3) :: (X.pn ++ pins))) JS gx gm q dx
      · exact ld_blt (X := X.suite a ((a, oe3) :: (X.pn ++ pins))) JS gx gm gv q nn dx
    have go : ∀ {hs2 : List ExceptHandler} {l2 : List HdT}, HdsAll X hs2 l2 → wAll X.K Wo D l2 cls d σ2 H2 →
        wpAny (model X.prog X.w) X.A (handleBy (.ref a) X.env hs2) (SP X pins D) X.xe { s2 with heap := hp3 } := by
      intro hs2 l2 hk
      induction hk with
      | nil =>
        intro wn
        refine wpAny_handleBy_nil ?_
        obtain ⟨_, _, _, oe, vs, T, oT, ts9, geto, zco, dato, first, _⟩ := id fly3
        unfold PySem.passOn
        refine wpAny_bind (wpAny_field geto dato first ?_)
        rw [if_neg (show ¬ ((Value.ref T == Value.none) = true) from by simp)]
        have out : wpAny (model X.prog X.w) X.A (setFlight (.ref a) X.env.frame) (fun _ w4 => wpAny (model X.prog X.w) X.A (throw (.ref a) : Sem Flow) (SP X pins D) X.xe w4) X.xe { s2 with heap := hp3 } := by
          rw [fr]
          refine HandSPX.setFlight_upZ fly3 fun hp4 hh4 up4 => wpAny_throw (tk _ _ ?_)
          exact ⟨a, B, sI, pins, σ2, H2, cls, d, rfl, J, nbare, (upw.trans up3).trans up4, .inr (.inr (by rw [st]; exact hh4)), fresh, oseq, agr, wn⟩
        first
          | exact wpAny_bind (wpAny_pure (wpAny_bind out))
          | exact wpAny_bind out
      | @bare x c ts b0 su p1 p2 hds2 l2 hc hsu rest ih =>
        intro wn
        obtain ⟨b, eb, yes, no⟩ := wn
        refine wpAny_handleBy_cons (codeAny_handlers_test ?_) (by intro q; cases q)
        have LM := PySem.W.exm_one (M := model X.prog X.w) JL.kIn LT eb
        refine clause hc (LM.here ?_)
        cases b with
        | false => exact ih (no rfl)
        | true =>
          refine codeAny_handlers_suite ?_
          refine HandSPX.lands_againZ fly3 fun hp4 fly4 up4 => ?_
          have J4 : Inv X pins σ2 H2 { s2 with heap := hp4 } := J.landed nbare fly4.1 ((upw.trans up3).trans up4) oseq agr
          obtain ⟨oe4, vs4, get4, zc4, dat4⟩ := fly4.there
          have S4 := J4.suite get4 dat4 fresh nloc nout
          refine wpAny_mono ((hsu a oe4 cls d (X.pn ++ pins) zc4 ⟨_, dat4⟩).run [] _ _ H2 _ S4 (yes rfl a fresh)) (fun fl w6 e6 => ?_) (fun _ _ z => False.elim z)
          cases fl with
          | next => exact let ⟨σ6, H6, S6, q6⟩ := e6; ⟨σ6, H6, S6.unsuite okX, q6⟩
          | brk => exact let ⟨σ6, H6, S6, q6⟩ := e6; ⟨σ6, H6, S6.unsuite okX, q6⟩
          | cont => exact let ⟨σ6, H6, S6, q6⟩ := e6; ⟨σ6, H6, S6.unsuite okX, q6⟩
          | ret u => exact let ⟨v6, σ6, H6, S6, r6, q6⟩ := e6; ⟨v6, σ6, H6, S6.unsuite okX, r6, q6⟩
      | @named x n i c ts b0 su p1 p2 hds2 l2 hN hi hl hc hsu rest ih =>
        intro wn
        obtain ⟨b, eb, yes, no⟩ := wn
        refine wpAny_handleBy_cons (codeAny_handlers_test ?_) (by intro q; cases q)
        have LM := PySem.W.exm_one (M := model X.prog X.w) JL.kIn LT eb
        refine clause hc (LM.here ?_)
        cases b with
        | false => exact ih (no rfl)
        | true =>
          refine codeAny_handlers_suite_as ?_
          refine HandSPX.lands_againZ fly3 fun hp4 fly4 up4 => ?_
          have J4 : Inv X pins σ2 H2 { s2 with heap := hp4 } := J.landed nbare fly4.1 ((upw.trans up3).trans up4) oseq agr
          obtain ⟨oe4, vs4, get4, zc4, dat4⟩ := fly4.there
          have S4 := J4.suite get4 dat4 fresh nloc nout
          refine store_ok (X := X.suite a ((a, oe4) :: (X.pn ++ pins))) (v := .ref a) S4 hN hi (.inl hl) rfl (fun s5 S5 => ?_) (.inr hl)
          refine wpAny_mono ((hsu a oe4 cls d (X.pn ++ pins) zc4 ⟨_, dat4⟩).run [] s5 _ H2 _ S5 (yes rfl a fresh)) (fun fl w6 e6 => ?_) (fun _ _ z => False.elim z)
          have gone : ∀ {σ6 : L2.St} {H6 : Hp} {Q : Shared → Prop}, Inv (X.suite a ((a, oe4) :: (X.pn ++ pins))) [] σ6 H6 w6 → (∀ s7, Inv X pins (σ6.set i none) H6 s7 → Q s7) →
              wpAny (model X.prog X.w) X.A (do bindName X.env n .none; unbindBehindTheSuite X.env n p2) (fun _ s7 => Q s7) X.xe w6 := fun {σ6 H6 Q} S6 hq => gone_ok (S6.unsuite okX) hN hi hl hq
          cases fl with
          | next => exact let ⟨σ6, H6, S6, q6⟩ := e6; gone S6 fun s7 J7 => ⟨_, _, J7, q6⟩
          | brk => exact let ⟨σ6, H6, S6, q6⟩ := e6; gone S6 fun s7 J7 => ⟨_, _, J7, q6⟩
          | cont => exact let ⟨σ6, H6, S6, q6⟩ := e6; gone S6 fun s7 J7 => ⟨_, _, J7, q6⟩
          | ret u => exact let ⟨v6, σ6, H6, S6, r6, q6⟩ := e6; gone S6 fun s7 J7 => ⟨_, _, _, J7, r6, q6⟩
    exact go hall want
  · cases fl with
    | next => exact let ⟨σ6, H6, S6, q6⟩ := done; wpAny_execs_nil ⟨σ6, H6, S6.ofTry okX, q6⟩
    | brk => exact let ⟨σ6, H6, S6, q6⟩ := done; ⟨σ6, H6, S6.ofTry okX, q6⟩
    | cont => exact let ⟨σ6, H6, S6, q6⟩ := done; ⟨σ6, H6, S6.ofTry okX, q6⟩
    | ret u => exact let ⟨v6, σ6, H6, S6, r6, q6⟩ := done; ⟨v6, σ6, H6, S6.ofTry okX, r6, q6⟩
end
end VL
end

noncomputable section
namespace VL
open PySem PySem.Spec PyProof.Rows L2
open ModeZ

structure Hdl where
  cls : Str
  slot : Option Nat
  m : Exc → Sl → O
/-- an own exception of class C is caught by a clause for D -/
def subX (C D : Str) : Bool := C == D || D == "CreelError"
@[simp] def unsetO (i : Nat) : O → O
  | .nx r => .nx (r.set i none)
  | .rt d r => .rt d r
  | _ => .stuck
@[simp] def calmO : O → O
  | .exc _ _ => .stuck
  | o => o
def runH (h : Hdl) (x : Exc) (r : Sl) : O := match h.slot with
  | none => calmO (h.m x r)
  | some i => unsetO i (h.m x (r.set i (some .non)))
def handle : List Hdl → Exc → Sl → O
  | [], x, r => .exc x r
  | h :: hs, x, r => if subX x.cls h.cls then runH h x r else handle hs x r
@[simp] def mTry (mb : Sl → O) (hs : List Hdl) : Sl → O := fun r => match mb r with
  | .exc x r' => handle hs x r'
  | o => o
/-- what is known of a clause's class -/
structure HSub (K : PySem.W.Frag) (mg : Str → Option Value) (cl : Cl) (D : Str) : Prop where
  ex : ∃ a, mg D = some (.ref a) ∧ ∀ C c, cl.f C = some c → PySem.W.exmOne K (.ref c) (.ref a) = some (subX C D)
theorem StRel.putAdr {E : En} {Hs H : Hp} {ks : List Kd} {r : Sl} {σ : L2.St} {i : Nat} {k : Kd} (a : Addr) (S : StRel E Hs H ks r σ) (hk : ks[i]? = some k) : StRel E Hs H (ks.set i (.adr a)) (r.set i (some .non)) (σ.set i (some (.ref a))) := by
  obtain ⟨As, S⟩ := S
  obtain ⟨pre, A, post, e, _, f, _, _⟩ := S.sl.at_ i hk
  have sub : (pre ++ ([] ++ post)).Sublist As := by
    rw [e]
    exact List.Sublist.append (List.Sublist.refl _) (by rw [List.nil_append]; exact List.sublist_append_right _ _)
  exact ⟨_, f (.adr a) .non (.ref a) [] .adr, S.nd.sublist sub, fun a ha => S.dis a (sub.subset ha), S.es, S.sub, S.eb, S.new, S.dom, S.tb⟩
section
variable {X : Cx} {E : En} {kr : Kd} {fin : List Kd → Prop} {ks ks' : List Kd}
/-- the clauses: ks the slots where the body raises, ks' behind the suites -/
inductive HB (X : Cx) (E : En) (kr : Kd) (fin : List Kd → Prop) (ks : List Kd) : List ExceptHandler → List Hdl → List Kd → Prop
  | nil {ks' : List Kd} : HB X E kr fin ks [] [] ks'
  | bare {D : Str} {b0 : Stmt} {su : List Stmt} {p1 p2 : Pos} {hds : List ExceptHandler} {hs : List Hdl} {m : Exc → Sl → O} {ks' : List Kd} (T : HSub X.K X.mg E.cl D) (hq : NmOk D) (hg : Gl X D)
      (su_ok : ∀ (a : Addr) (oe : Obj) (cls : Value) (dd : Option Addr) (pn : List (Addr × Obj)) (s : Hp) (x : Exc), Zc cls dd oe → (∃ vs, oe.data = .fields vs) → XRep E.cl s s x cls dd → subX x.cls D = true →
        SB (X.suite a ((a, oe) :: pn)) (E.at_ s) kr fin ks (b0 :: su) (m x) ks') (rest : HB X E kr fin ks hds hs ks') :
      HB X E kr fin ks (.ExceptHandler (some (.Name D p1)) none (b0 :: su) p2 :: hds) (⟨D, none, m⟩ :: hs) ks'
  | named {D n : Str} {i : Nat} {k0 : Kd} {b0 : Stmt} {su : List Stmt} {p1 p2 : Pos} {hds : List ExceptHandler} {hs : List Hdl} {m : Exc → Sl → O} {ks' : List Kd} (hN : X.N.Nodup) (hi : X.N[i]? = some n) (hl : X.env.kindOf n = some .local) (hk : ks[i]? = some k0)
      (T : HSub X.K X.mg E.cl D) (hq : NmOk D) (hg : Gl X D)
      (su_ok : ∀ (a : Addr) (oe : Obj) (cls : Value) (dd : Option Addr) (pn : List (Addr × Obj)) (s : Hp) (x : Exc), Zc cls dd oe → (∃ vs, oe.data = .fields vs) → XRep E.cl s s x cls dd → subX x.cls D = true →
        ∃ ks2 k2, ks2[i]? = some k2 ∧ ks' = ks2.set i .val ∧ SB (X.suite a ((a, oe) :: pn)) (E.at_ s) kr fin (ks.set i (.adr a)) (b0 :: su) (m x) ks2) (rest : HB X E kr fin ks hds hs ks') :
      HB X E kr fin ks (.ExceptHandler (some (.Name D p1)) (some n) (b0 :: su) p2 :: hds) (⟨D, some i, m⟩ :: hs) ks'
/-- a suite's reading -/
def tsN (E : En) (kr : Kd) (fin : List Kd → Prop) (ks ks' : List Kd) (D : Str) (m : Exc → Sl → O) : Addr → Value → Option Addr → TS := fun a cls d Dn σ H =>
  ∃ Hs x r, XRep E.cl Hs Hs x cls d ∧ subX x.cls D = true ∧ StRel (E.at_ Hs) Hs H ks r σ ∧ PostS (E.at_ Hs) ks' kr fin (fun _ _ _ _ => False) Dn (m x r)
def tsA (E : En) (kr : Kd) (fin : List Kd → Prop) (ks ks' : List Kd) (i : Nat) (D : Str) (m : Exc → Sl → O) : Addr → Value → Option Addr → TS := fun a cls d Dn σ H =>
  ∃ Hs x r, XRep E.cl Hs Hs x cls d ∧ subX x.cls D = true ∧ StRel (E.at_ Hs) Hs H (ks.set i (.adr a)) r σ ∧ ∀ ks2 k2, ks2[i]? = some k2 → ks' = ks2.set i .val → PostS (E.at_ Hs) ks2 kr fin (fun _ _ _ _ => False) Dn (m x r)
theorem hb_all {hds : List ExceptHandler} {hs : List Hdl} (hfin : fin ks) (hh : HB X E kr fin ks hds hs ks') : ∃ l, HdsAll X hds l ∧ ∀ (W : WX) (Dn : Ends) (x : Exc) (Hs H : Hp) (σ : L2.St) (c : Value) (dd : Option Addr) (r : Sl),
    StRel E Hs H ks r σ → XRep E.cl Hs H x c dd → PostS E ks' kr fin W Dn (handle hs x r) → wAll X.K W Dn l c dd σ H := by
  induction hh with
  | nil => exact ⟨[], .nil, fun W Dn x Hs H σ c dd r S xr P => P Hs H σ c dd ks hfin S xr⟩
  | @bare D b0 su p1 p2 hds hs m ks' T hq hg su_ok rest ih =>
    obtain ⟨l, h1, h2⟩ := ih
    obtain ⟨aD, g1, g2⟩ := T.ex
    refine ⟨(.ref aD, none, tsN E kr fin ks ks' D m) :: l, .bare ⟨hg, hq.1, .inl g1⟩ (fun a oe cls d pn hz hf => ⟨fun pins s σ H Dn I hx => ?_⟩) h1, fun W Dn x Hs H σ c dd r S xr P => ?_⟩
    · obtain ⟨Hs, x, r, xr, sx, S, P⟩ := hx
      exact (wss_of pss_ws ((su_ok a oe cls d pn Hs x hz hf xr sx).run Hs H r σ _ Dn takesF S P)) pins s I
    · obtain ⟨a, e1, e2, e3⟩ := xr
      have xr' : XRep E.cl Hs Hs x c dd := ⟨a, e1, e2, e3⟩
      refine ⟨subX x.cls D, by rw [e2]; exact g2 _ _ e1, fun hb a0 na => ?_, fun hb => h2 W Dn x Hs H σ c dd r S ⟨a, e1, e2, e3⟩ ?_⟩
      · refine ⟨Hs, x, r, xr', hb, S.down, ?_⟩
        have P' : PostS E ks' kr fin W Dn (calmO (m x r)) := by
          unfold handle at P
          rw [if_pos hb] at P
          exact P
        have F := S.facts
        cases q : m x r with
        | stuck => rw [q] at P'; exact P'
        | exc y r' => rw [q] at P'; exact P'.elim
        | nx r' => rw [q] at P'; exact fun Hs4 H4 σ4 S4 => P' Hs4 H4 σ4 (S4.up F.1 F.2.2.1)
        | rt d r' => rw [q] at P'; exact fun Hs4 H4 σ4 v ks2 z S4 => P' Hs4 H4 σ4 v ks2 z (S4.up F.1 F.2.2.1)
      · unfold handle at P
        rw [if_neg (by simp [hb])] at P
        exact P
  | @named D n i k0 b0 su p1 p2 hds hs m ks' hN hi hl hk T hq hg su_ok rest ih =>
    obtain ⟨l, h1, h2⟩ := ih
    obtain ⟨aD, g1, g2⟩ := T.ex
    refine ⟨(.ref aD, some i, tsA E kr fin ks ks' i D m) :: l, .named hN hi hl ⟨hg, hq.1, .inl g1⟩ (fun a oe cls d pn hz hf => ⟨fun pins s σ H Dn I hx => ?_⟩) h1, fun W Dn x Hs H σ c dd r S xr P => ?_⟩
    · obtain ⟨Hs, x, r, xr, sx, S, P⟩ := hx
      obtain ⟨ksu, ku, e1, e2, sb⟩ := su_ok a oe cls d pn Hs x hz hf xr sx
      exact (wss_of pss_ws (sb.run Hs H r σ _ Dn takesF S (P ksu ku e1 e2))) pins s I
    · obtain ⟨a, e1, e2, e3⟩ := xr
      have xr' : XRep E.cl Hs Hs x c dd := ⟨a, e1, e2, e3⟩
      refine ⟨subX x.cls D, by rw [e2]; exact g2 _ _ e1, fun hb a0 na => ?_, fun hb => h2 W Dn x Hs H σ c dd r S ⟨a, e1, e2, e3⟩ ?_⟩
      · refine ⟨Hs, x, r.set i (some .non), xr', hb, S.down.putAdr a0 hk, fun ksu ku eu ek => ?_⟩
        have P' : PostS E ks' kr fin W Dn (unsetO i (m x (r.set i (some .non)))) := by
          unfold handle at P
          rw [if_pos hb] at P
          exact P
        have F := S.facts
        cases q : m x (r.set i (some .non)) with
        | stuck => rw [q] at P'; exact P'
        | exc y r' => rw [q] at P'; exact P'.elim
        | nx r' =>
          rw [q] at P'
          intro Hs4 H4 σ4 S4
          have S5 := (S4.up F.1 F.2.2.1).wipe1 (k' := .val) eu none
          rw [← ek] at S5
          exact P' Hs4 H4 _ S5
        | rt d r' => rw [q] at P'; exact fun Hs4 H4 σ4 v ks2 z S4 => P' Hs4 H4 σ4 v ks2 z (S4.up F.1 F.2.2.1)
      · unfold handle at P
        rw [if_neg (by simp [hb])] at P
        exact P
theorem ss_try {body : List Stmt} {hd0 : ExceptHandler} {hds : List ExceptHandler} {hs : List Hdl} {mb : Sl → O} {pos : Pos} (hbody : ∀ (pn : List (Addr × Obj)) (xe : Value → Shared → Prop), PassesOwn (model X.prog X.w) X.A X.env xe → SB (X.tr pn xe) E kr (fun k => k = ks ∧ fin k) ks body mb ks')
    (hh : HB X E kr fin ks (hd0 :: hds) hs ks') (hf : fin ks := by trivial) (st : X.stack = X.env :: X.outer := by rfl) (fr : X.env.frame = some X.env.locals := by rfl) : SS X E kr fin ks (.Try body (hd0 :: hds) [] [] pos) (mTry mb hs) ks' := by
  refine ⟨fun Hs H r σ W Dn tk S P => ?_⟩
  obtain ⟨l, h1, h2⟩ := hb_all hf hh
  refine ws_of (ps_try_all (tb := fun W D σ H => ∃ Hs r, StRel E Hs H ks r σ ∧ PostS E ks' kr (fun k => k = ks ∧ fin k) W D (mb r)) st fr tk (fun W pn xe tk2 hp => ⟨fun pins s σ H D I hx => ?_⟩) h1) ?_
  · obtain ⟨Hs, r, S, P⟩ := hx
    exact (wss_of pss_ws ((hbody pn xe hp).run Hs H r σ W D tk2 S P)) pins s I
  · refine ⟨Hs, r, S, ?_⟩
    have P' : PostS E ks' kr fin W Dn (match mb r with
      | .exc x r' => handle hs x r'
      | o => o) := P
    cases q : mb r with
    | stuck => rw [q] at P'; exact P'
    | nx r' => rw [q] at P'; exact P'
    | rt d r' => rw [q] at P'; exact fun Hs4 H4 σ4 v ks2 z S4 => P' Hs4 H4 σ4 v ks2 z.2 S4
    | exc x r' =>
      rw [q] at P'
      intro Hs4 H4 σ4 c dd ks2 z S4 xr
      obtain ⟨z1, z2⟩ := z
      subst z1
      exact h2 W Dn x Hs4 H4 σ4 c dd r' S4 xr P'
/-- e.at in a suite -/
def gAt (i : Nat) (x : Exc) : Sl → R D := fun r => match r[i]?, x.at_ with
  | some (some _), some d => .ok d
  | _, _ => .stuck
structure XfAt (K : PySem.W.Frag) (cl : Cl) (D : Str) : Prop where
  f : ∀ a, cl.f D = some a → XfC K a ∧ PySem.W.findIn K (.ref a) "at" = some none
theorem se_excAt {a : Addr} {oe : Obj} {cls : Value} {dd : Option Addr} {pn : List (Addr × Obj)} {s : Hp} {x : Exc} {i : Nat} {n D : Str} {p1 p2 : Pos} {ks : List Kd} (hz : Zc cls dd oe) (hf : ∃ vs, oe.data = .fields vs) (xr : XRep E.cl s s x cls dd) (hx : subX x.cls D = true) (hD : D ≠ "CreelError" := by decide) (T : XfAt X.K E.cl D)
    (hq : NmOk n) (hk : ks[i]? = some (.adr a) := by rfl) (hN : X.N[i]? = some n := by rfl) (hv : Vis X.env.scope n := by first | exact Or.inl rfl | exact Or.inr (Or.inl rfl) | exact Or.inr (Or.inr rfl))
    (hb : ∀ p, attributeBase (.Name n p) "at" X.env (eval (.Name n p) X.env) = eval (.Name n p) X.env := by intro _; rfl) :
    SE (X.suite a ((a, oe) :: pn)) (E.at_ s) ks .val (.Attribute (.Name n p1) "at" p2) (gAt i x) := by
  refine ⟨fun Hs H r σ W Q tk S P => ?_⟩
  have ex : x.cls = D := by
    unfold subX at hx
    rcases Bool.or_eq_true_iff.mp hx with z | z
    · exact by simpa using z
    · exact absurd (by simpa using z) hD
  obtain ⟨ac, e1, e2, e3⟩ := xr
  rw [ex] at e1
  have TT := T.f _ e1
  unfold gAt at P
  cases q1 : r[i]? with
  | none => rw [q1] at P; exact P.elim
  | some o =>
    cases o with
    | none => rw [q1] at P; exact P.elim
    | some d0 =>
      cases q2 : x.at_ with
      | none => rw [q1, q2] at P; exact P.elim
      | some d =>
        rw [q1, q2] at P
        rw [q2] at e3
        obtain ⟨p, v, f1, f2, f3⟩ := e3
        obtain ⟨w, A, ew, ow⟩ := S.get hk q1
        cases ow
        have es : Same s Hs := S.facts.1
        refine we_of (pe_xf TT.1 TT.2 hz hf (pe_var (i := i) hN hv hq.1 hq.2) (hb _)) ?_
        refine ⟨.ref a, ew, rfl, e2, p, [("at", v)], v, f1, S.sub.at _ _ (es.at _ _ f2), ?_, P v Hs H (Grow.refl S.sub) (RK.val (Rep.same es _ _ f3))⟩
        simp [List.lookup]
end
end VL
end

noncomputable section
namespace VL
open PySem PySem.Spec PyProof.Rows L2
open ModeZ

section
variable {X : Cx} {pins : List (Addr × Obj)} {σ : L2.St} {H : Hp} {s : Shared}
theorem codeO_tbl {c : Addr} {q : Str} (ps : Array Value) : LamX.CodeO c q ≠ .tbl ps := fun z => by
  unfold LamX.CodeO at z
  cases z
end

end VL
end

noncomputable section
namespace VL
open PySem PySem.Spec PyProof.Rows L2
open ModeZ

theorem look_nil {P : Str → Addr → Prop} : ∀ C c, List.lookup C ([] : List (Str × Addr)) = some c → P C c := fun C c e => by cases e
theorem look_cons {P : Str → Addr → Prop} {n : Str} {a : Addr} {l : List (Str × Addr)} (h : P n a) (t : ∀ C c, List.lookup C l = some c → P C c) : ∀ C c, List.lookup C ((n, a) :: l) = some c → P C c := fun C c e => by
  rw [List.lookup_cons] at e
  cases q : C == n with
  | true =>
    rw [q] at e
    have e1 : C = n := by simpa using q
    cases e
    rw [e1]
    exact h
  | false =>
    rw [q] at e
    exact t C c e
theorem sub_at {K : PySem.W.Frag} {C D : Str} {c a : Addr} {b : Bool} (e : PySem.W.exmOne K (.ref c) (.ref a) = some b) (h : subX C D = b) : PySem.W.exmOne K (.ref c) (.ref a) = some (subX C D) := by rw [h]; exact e
theorem exm_mk {K : PySem.W.Frag} {t : Value} {a : Addr} {b : Bool} (s : PySem.W.subIn K (.ref a) (.type "BaseException") = some true) (i : PySem.W.isClsIn K a = true) (ty : PySem.W.typeIn K (.ref a) = some (.type "type")) (e : PySem.W.subIn K t (.ref a) = some b) : PySem.W.exmOne K t (.ref a) = some b := by
  unfold PySem.W.isClsIn at i
  unfold PySem.W.exmOne PySem.W.kitCls
  rw [s]
  simp [i, ty, e]
theorem xf_ok {K : PySem.W.Frag} {cl : Cl} {D : Str} {a0 : Addr} (e : cl.f D = some a0) (X : XfC K a0) (no : PySem.W.findIn K (.ref a0) "at" = some none) : XfAt K cl D := ⟨fun a h => by
  rw [e] at h
  cases h
  exact ⟨X, no⟩⟩
end VL
end

noncomputable section
namespace VL
open PySem PySem.Spec PyProof.Rows L2
open ModeZ

end VL
end

noncomputable section
namespace L2
open PySem PySem.Spec PyProof.Rows
section
variable {P : Program} {w : World} {A : Around} {E : Value → Shared → Prop} {s : Shared}
end
end L2
namespace VL
open PySem PySem.Spec PyProof.Rows L2
variable {md : Md}

section
variable {X : Cx} {E : En} {ks : List Kd} {e o : Expr} {g ga gb : Sl → R D} {p p1 p2 q pos apos cpos : Pos}
end
end VL
end

noncomputable section
namespace VL
open PySem PySem.Spec PyProof.Rows L2
variable {md : Md}

def keyD : Key → D
  | .inl i => .int i
  | .inr x => .str x
def keyOf : D → Option Key
  | .int i => some (.inl i)
  | .str x => some (.inr x)
  | _ => none
def pairK (p : Key × D) : D := .tup [keyD p.1, p.2]
def valD (ds : List (Key × D)) (k : Key) : Option D := (ds.find? fun kv => decide (kv.1 = k)).map (·.2)
theorem valD_pos {p : Key × D} {r : List (Key × D)} {k : Key} (e : p.1 = k) : valD (p :: r) k = some p.2 := by simp [valD, List.find?_cons, e]
theorem valD_neg {p : Key × D} {r : List (Key × D)} {k : Key} (e : ¬ p.1 = k) : valD (p :: r) k = valD r k := by simp [valD, List.find?_cons, e]
def putD (ds : List (Key × D)) (k : Key) (d : D) : List (Key × D) :=
  if (ds.any fun kv => decide (kv.1 = k)) = true then ds.map (fun kv => if kv.1 = k then (kv.1, d) else kv) else ds ++ [(k, d)]
theorem keyRep {cl : Cl} {H : Hp} (k : Key) : Rep cl H (keyD k) (kV k) := by
  cases k with
  | inl i => exact .int i
  | inr x => exact .str x
theorem keyOf_rb {cl : Cl} {Hs H : Hp} {d : D} {v : V} {k : Key} (h : RB cl Hs H d v) (q : keyOf d = some k) : v = kV k := by
  cases d <;> first | (cases q; done) | skip
  · cases q; exact h.intInv
  · cases q; exact h.strInv
section
variable {cl : Cl} {H : Hp}
theorem RepK.len : ∀ {ds : List (Key × D)} {xs : List (Key × V)}, RepK cl H ds xs → xs.length = ds.length
  | [], _, h => by cases h; rfl
  | _ :: _, _, h => by
    cases h with
    | cons _ h2 => rw [List.length_cons, List.length_cons, RepK.len h2]
theorem RepK.get : ∀ {ds : List (Key × D)} {xs : List (Key × V)} {i : Nat} {p : Key × D}, RepK cl H ds xs → ds[i]? = some p → ∃ v, xs[i]? = some (p.1, v) ∧ Rep cl H p.2 v
  | [], _, _, _, _, e => by simp at e
  | _ :: _, _, 0, _, h, e => by
    cases h with
    | cons h1 h2 => cases e; exact ⟨_, rfl, h1⟩
  | _ :: _, _, i + 1, _, h, e => by
    cases h with
    | cons h1 h2 => exact RepK.get (i := i) h2 e
theorem RepK.app : ∀ {ds es : List (Key × D)} {xs ys : List (Key × V)}, RepK cl H ds xs → RepK cl H es ys → RepK cl H (ds ++ es) (xs ++ ys)
  | [], _, _, _, h, g => by cases h; exact g
  | _ :: _, _, _, _, h, g => by
    cases h with
    | cons h1 h2 => exact .cons h1 (RepK.app h2 g)
theorem RepK.any (k : Key) : ∀ {ds : List (Key × D)} {xs : List (Key × V)}, RepK cl H ds xs → (xs.any fun kv => decide (kv.1 = k)) = ds.any fun kv => decide (kv.1 = k)
  | [], _, h => by cases h; rfl
  | _ :: _, _, h => by
    cases h with
    | cons h1 h2 => rw [List.any_cons, List.any_cons, RepK.any k h2]
theorem RepK.map (k : Key) {d : D} {v : V} (r : Rep cl H d v) : ∀ {ds : List (Key × D)} {xs : List (Key × V)}, RepK cl H ds xs → RepK cl H (ds.map fun kv => if kv.1 = k then (kv.1, d) else kv) (xs.map fun kv => if kv.1 = k then (kv.1, v) else kv)
  | [], _, h => by cases h; exact .nil
  | (k0, d0) :: _, _, h => by
    cases h with
    | cons h1 h2 =>
      rw [List.map_cons, List.map_cons]
      by_cases c : k0 = k
      · rw [if_pos c, if_pos c]; exact .cons r (RepK.map k r h2)
      · rw [if_neg c, if_neg c]; exact .cons h1 (RepK.map k r h2)
theorem RepK.put {ds : List (Key × D)} {xs : List (Key × V)} (h : RepK cl H ds xs) (k : Key) {d : D} {v : V} (r : Rep cl H d v) : RepK cl H (putD ds k d) (putK xs k v) := by
  unfold putD putK
  rw [h.any k]
  split
  · exact h.map k r
  · exact h.app (.cons r .nil)
theorem RepK.val (k : Key) : ∀ {ds : List (Key × D)} {xs : List (Key × V)}, RepK cl H ds xs → ∀ {d0 : D} {v0 : V}, Rep cl H d0 v0 → Rep cl H ((valD ds k).getD d0) ((valV xs k).getD v0)
  | [], _, h, _, _, r => by cases h; exact r
  | (k0, d0) :: _, _, h, _, _, r => by
    cases h with
    | cons h1 h2 =>
      by_cases c : k0 = k
      · rw [valD_pos c, valV_pos c]; exact h1
      · rw [valD_neg c, valV_neg c]; exact RepK.val k h2 r
end
section
variable {E : En} {Hs H : Hp} {ks : List Kd} {r : Sl} {σ : L2.St}
theorem Slots.monoB {E' : En} (c : E'.cl = E.cl) (n : E'.h = E.h) (b : Same E.b E'.b) {H' : Hp} : ∀ {ks : List Kd} {r : Sl} {t : L2.St} {As : List Addr}, (∀ a ∈ As, H' a = H a) → Slots E Hs H ks r t As → Slots E' Hs H' ks r t As
  | _, _, _, _, _, .nil => .nil
  | _, _, _, _, k, .skip h => .skip (Slots.monoB c n b k h)
  | _, _, _, _, k, .cons h1 h2 => .cons (by rw [c]; exact ORep.mono (Same.refl _) b (fun a z => by show E'.h a = none; rw [n]; exact z) _ _ _ _ (fun a ha => k a (List.mem_append_left _ ha)) h1) (Slots.monoB c n b (fun a ha => k a (List.mem_append_right _ ha)) h2)
/-- the dict in slot i is locked: its name holds an address alone -/
theorem StRel.lock {i : Nat} {n : Option Addr} {ds : List (Key × D)} (S : StRel E Hs H ks r σ) (hk : ks[i]? = some (.own n)) (hd : r[i]? = some (some (.dct ds))) :
    ∃ a xs, σ[i]? = some (some (.ref a)) ∧ H a = some (.dK xs) ∧ RepK E.cl Hs ds xs ∧ Hs a = none ∧
      ∀ od, StRel ⟨E.cl, E.h, Hs, upd E.b a (.frz od (.dK xs))⟩ Hs (upd H a (.frz od (.dK xs))) (ks.set i (.adr a)) (r.set i (some .non)) σ := by
  obtain ⟨As, S⟩ := S
  obtain ⟨pre, A, post, e, q1, q2, _, _⟩ := S.sl.at_ i hk
  obtain ⟨v, ev, o⟩ := q1 _ hd
  cases o with
  | ownV h0 h1 => cases h0
  | ownK h0 h1 h2 =>
    rename_i a xs
    have ha : a ∈ As := by rw [e]; exact List.mem_append_right _ (List.mem_append_left _ (by simp))
    have dz := S.dis a ha
    refine ⟨a, xs, ev, h1, h2, dz.1, fun od => ?_⟩
    have nd := S.nd
    rw [e] at nd
    have hn : ∀ b ∈ pre ++ post, b ≠ a := fun b hb z => by
      subst z
      rcases List.mem_append.mp hb with w | w
      · exact (List.nodup_append.mp nd).2.2 _ w _ (List.mem_append_left _ (by simp)) rfl
      · exact (List.nodup_append.mp (List.nodup_append.mp nd).2.1).2.2 _ (by simp) _ w rfl
    have z0 := q2 (.adr a) .non (.ref a) [] .adr
    have e3 : σ.set i (some (.ref a)) = σ := by
      obtain ⟨h, e2⟩ := List.getElem?_eq_some_iff.mp ev
      rw [← e2, List.set_getElem_self]
    rw [e3, List.nil_append] at z0
    have bs : Same E.b (upd E.b a (.frz od (.dK xs))) := Same.updNew dz.2
    have z := Slots.monoB (E := E) (E' := ⟨E.cl, E.h, Hs, upd E.b a (.frz od (.dK xs))⟩) (H' := upd H a (.frz od (.dK xs))) rfl rfl bs (fun b hb => upd_ne (hn b hb)) z0
    have sub : (pre ++ post).Sublist As := by
      rw [e]
      exact List.Sublist.append (List.Sublist.refl _) (List.sublist_append_right _ _)
    refine ⟨_, z, S.nd.sublist sub, fun b hb => ⟨(S.dis b (sub.subset hb)).1, ?_⟩, Same.refl _, ⟨fun b u q nt => ?_⟩, S.eb.updBoth, fun b z => .inl z, fun b q => ?_, fun P z => tab_mut h1 P (S.tb P z)⟩
    · show upd E.b a _ b = none
      rw [upd_ne (hn b hb)]
      exact (S.dis b (sub.subset hb)).2
    · have : b ≠ a := fun w => by rw [w, dz.1] at q; cases q
      rw [upd_ne this] at nt ⊢
      exact S.sub.k _ _ q nt
    · have : b ≠ a := fun w => by rw [w, upd_same] at q; cases q
      rw [upd_ne this] at q
      exact S.dom _ q
end
section
variable {X : Cx} {E : En} {kr : Kd} {fin : List Kd → Prop} {ks ks' : List Kd} {e f b : Expr} {ge gf gb g : Sl → R D} {pos p1 p2 apos cpos : Pos}
end
end VL
end

noncomputable section
namespace VL
open PySem PySem.Spec PyProof.Rows L2
variable {md : Md}

section
variable {X : Cx} {E : En} {ks : List Kd} {a b : Expr} {ga gb : Sl → R D} {p p2 q pos : Pos}
end
end VL
end

noncomputable section
namespace VL
open PySem PySem.Spec PyProof.Rows L2
variable {md : Md}

section
variable {X : Cx} {E : En} {ks : List Kd} {md : Bool} {tg e : Expr} {g : Sl → R D} {p pos : Pos}
end
end VL
end

noncomputable section
namespace VL
open PySem PySem.Spec PyProof.Rows L2
variable {md : Md}

section
variable {H H' Hs : Hp} {A : List Addr} {a : Addr}
end
section
variable {cl : Cl} {N N' : Addr → Prop} {B B' Hs H : Hp}
/-- several things that are lent -/
inductive RM (cl : Cl) (N : Addr → Prop) (B Hs H : Hp) : List Kd → List D → List V → List Addr → Prop
  | nil : RM cl N B Hs H [] [] [] []
  | cons {k : Kd} {d : D} {v : V} {A As : List Addr} {ks : List Kd} {ds : List D} {vs : List V} : ORep cl N B Hs H k d v A → RM cl N B Hs H ks ds vs As → RM cl N B Hs H (k :: ks) (d :: ds) (v :: vs) (A ++ As)
theorem RM.mono {Hs' H' : Hp} (e : Same Hs Hs') : ∀ {ks : List Kd} {ds : List D} {vs : List V} {A : List Addr}, (∀ a ∈ A, H' a = H a) → RM cl N B Hs H ks ds vs A → RM cl N B Hs' H' ks ds vs A
  | _, _, _, _, _, .nil => .nil
  | _, _, _, _, q, .cons o t => .cons (ORep.mono e (Same.refl _) (fun _ z => z) _ _ _ _ (fun a ha => q a (List.mem_append_left _ ha)) o) (RM.mono e (fun a ha => q a (List.mem_append_right _ ha)) t)
theorem RM.len : ∀ {ks : List Kd} {ds : List D} {vs : List V} {A : List Addr}, RM cl N B Hs H ks ds vs A → ds.length = ks.length ∧ vs.length = ks.length
  | _, _, _, _, .nil => ⟨rfl, rfl⟩
  | _, _, _, _, .cons o t => by simp [RM.len t]
end
section
variable {E : En} {Hs H Hs' H' : Hp} {ks : List Kd} {r : Sl} {σ : L2.St} {As : List Addr}
theorem Slots.join : ∀ {kf : List Kd} {df : List D} {uf : List V} {Af Ar : List Addr}, RM E.cl E.N E.b Hs H kf df uf Af → Slots E Hs H ks r σ Ar → Slots E Hs H (kf ++ ks) (df.map some ++ r) (uf.map some ++ σ) (Af ++ Ar)
  | _, _, _, _, _, .nil, s => s
  | _, _, _, _, _, .cons o m, s => by
    rw [List.append_assoc]
    exact .cons o (Slots.join m s)
theorem StRel.pop {k : Kd} {o : Option D} {v : Option V} (S : StRel E Hs H (k :: ks) (o :: r) (v :: σ)) : StRel E Hs H ks r σ := by
  obtain ⟨As, S⟩ := S
  have sl := S.sl
  cases sl with
  | skip t => exact ⟨_, t, S.nd, S.dis, S.es, S.sub, S.eb, S.new, S.dom, S.tb⟩
  | cons o t => exact ⟨_, t, (List.nodup_append.mp S.nd).2.1, fun a ha => S.dis a (List.mem_append_right _ ha), S.es, S.sub, S.eb, S.new, S.dom, S.tb⟩
end
def Kd.re (n : Option Addr) : Kd → Kd
  | .own _ => .own n
  | .obj _ ks => .obj n ks
  | .lls _ k => .lls n k
  | k => k
section
variable {cl : Cl} {N : Addr → Prop} {B Hs H : Hp} {d : D} {v : V} {A : List Addr} {n : Option Addr} {kk : List (Str × Kd)}
end
end VL
end

noncomputable section
namespace VL
open PySem PySem.Spec PyProof.Rows L2
variable {md : Md}

section
variable {cl : Cl} {N : Addr → Prop} {B Hs H : Hp}
theorem OFs.names : ∀ {ks : List (Str × Kd)} {ds : List (Str × D)} {xs : List (Str × V)} {As : List Addr}, OFs cl N B Hs H ks ds xs As → xs.map (·.1) = ks.map (·.1) ∧ ds.map (·.1) = ks.map (·.1)
  | _, _, _, _, .nil => ⟨rfl, rfl⟩
  | _, _, _, _, .cons o t => by simp [t.names]
theorem OFs.pos {f : Str} {k : Kd} : ∀ {ks : List (Str × Kd)} {ds : List (Str × D)} {xs : List (Str × V)} {As : List Addr} (j : Nat), OFs cl N B Hs H ks ds xs As → ks[j]? = some (f, k) →
    ∃ pre A post d v, As = pre ++ (A ++ post) ∧ ds[j]? = some (f, d) ∧ xs[j]? = some (f, v) ∧ ORep cl N B Hs H k d v A ∧
      ∀ Hs' H', Same Hs Hs' → (∀ a ∈ pre ++ post, H' a = H a) → ∀ k' d' v' A', ORep cl N B Hs' H' k' d' v' A' → OFs cl N B Hs' H' (ks.set j (f, k')) (ds.set j (f, d')) (xs.set j (f, v')) (pre ++ (A' ++ post))
  | _, _, _, _, j, .nil, e => by simp at e
  | _, _, _, _, 0, .cons (A := A) (As := As) o t, e => by
    simp at e
    obtain ⟨rfl, rfl⟩ := e
    exact ⟨[], A, As, _, _, rfl, rfl, rfl, o, fun Hs' H' s q k' d' v' A' o' => .cons (A := A') (As := As) o' (OFs.mono s (Same.refl _) (fun _ z => z) _ _ _ As (fun a ha => q a ha) t)⟩
  | _, _, _, _, j + 1, .cons (A := A0) o t, e => by
    obtain ⟨pre, A, post, d, v, e1, e2, e3, e4, e5⟩ := OFs.pos j t (by simpa using e)
    refine ⟨A0 ++ pre, A, post, d, v, by rw [e1, List.append_assoc], by simpa using e2, by simpa using e3, e4, fun Hs' H' s q k' d' v' A' o' => ?_⟩
    rw [List.append_assoc]
    exact .cons (ORep.mono s (Same.refl _) (fun _ z => z) _ _ _ _ (fun a ha => q a (List.mem_append_left _ (List.mem_append_left _ ha))) o)
      (e5 Hs' H' s (fun a ha => q a (by
        rcases List.mem_append.mp ha with z | z
        · exact List.mem_append_left _ (List.mem_append_right _ z)
        · exact List.mem_append_right _ z)) k' d' v' A' o')
theorem OFs.snoc {f : Str} {k : Kd} {d : D} {v : V} {A : List Addr} (o : ORep cl N B Hs H k d v A) : ∀ {ks : List (Str × Kd)} {ds : List (Str × D)} {xs : List (Str × V)} {As : List Addr}, OFs cl N B Hs H ks ds xs As → OFs cl N B Hs H (ks ++ [(f, k)]) (ds ++ [(f, d)]) (xs ++ [(f, v)]) (As ++ A)
  | _, _, _, _, .nil => by
    have z := OFs.cons (f := f) o (.nil (cl := cl) (N := N) (B := B) (Hs := Hs) (H := H))
    rw [List.append_nil] at z
    exact z
  | _, _, _, _, .cons o1 t => by
    rw [List.append_assoc]
    exact .cons o1 (OFs.snoc o t)
end
section
variable {E : En} {Hs H Hs' H' : Hp} {ks : List Kd} {r : Sl} {σ : L2.St} {i j : Nat} {n : Option Addr} {kk : List (Str × Kd)} {k : Kd} {f C : Str} {d d0 : D} {ds : List (Str × D)} {v : V}
end
section
variable {X : Cx} {E : En} {fin : List Kd → Prop} {kr : Kd} {ks ks' : List Kd} {i j : Nat} {n : Option Addr} {kk : List (Str × Kd)} {k : Kd} {C f x : Str} {e : Expr} {g : Sl → R D} {p1 p2 p3 pos : Pos}
end
end VL
end

noncomputable section
namespace VL
open PySem PySem.Spec PyProof.Rows L2
variable {md : Md}

def Kd.mutb : Kd → Bool
  | .own _ => true
  | .obj _ _ => true
  | .lls _ _ => true
  | _ => false
def pins (ks : List Kd) (as : List Addr) : List Kd := List.zipWith (fun k a => k.re (some a)) ks as
section
variable {cl : Cl} {N : Addr → Prop} {B Hs H : Hp}
end
theorem Slots.cut {E : En} {Hs H : Hp} : ∀ {kf kz : List Kd} {df : List D} {rz : Sl} {t : L2.St} {As : List Addr}, df.length = kf.length → Slots E Hs H (kf ++ kz) (df.map some ++ rz) t As → ∃ uf tz Af Ar, t = uf.map some ++ tz ∧ As = Af ++ Ar ∧ RM E.cl E.N E.b Hs H kf df uf Af
  | [], _, [], _, t, As, _, h => ⟨[], t, [], As, rfl, rfl, .nil⟩
  | k :: kf, _, d :: df, _, _, _, l, h => by
    cases h with
    | cons o t =>
      obtain ⟨uf, tz, Af, Ar, e1, e2, m⟩ := Slots.cut (by simpa using l) t
      exact ⟨_ :: uf, tz, _ ++ Af, Ar, by rw [e1]; rfl, by rw [e2, List.append_assoc], .cons o m⟩
  | [], _, _ :: _, _, _, _, l, _ => by cases l
  | _ :: _, _, [], _, _, _, l, _ => by cases l
section
variable {P : Program} {w : World} {K : PySem.W.Frag} {mg : Str → Option Value} {base : Heap} {cl : Cl} {x qual : Str} {st : Stmt} {fa : Addr} {fd : FuncData} {N ps : List Str} {k : Nat} {bs : List Bool} {kr : Kd} {k1 k2 ls : List Kd} {m : Sl → O}
end
end VL
end

noncomputable section
namespace VL
open PySem PySem.Spec PyProof.Rows L2
variable {md : Md}

section
variable {E : En} {Hs H Hs' H' : Hp} {ks : List Kd} {r : Sl} {σ : L2.St} {i : Nat} {k ka kb : Kd} {d da db : D} {va vb : V}
end
def PostX (E : En) (ks' : List Kd) (k : Kd) (fin : List Kd → Prop) (W : WX) (σ : L2.St) (Q : VK) : O → Prop
  | .rt d r => ∀ v Hs' H', StRel E Hs' H' (k :: ks') (some d :: r) (some v :: σ) → Q v H'
  | .exc x r => ∀ Hs' H' c dd ks2, fin ks2 → StRel E Hs' H' ks2 r σ → XRep E.cl Hs' H' x c dd → W c dd σ H'
  | _ => False
/-- an expression that changes slots -/
structure SX [md : Md] (X : Cx) (E : En) (fin : List Kd → Prop) (ks : List Kd) (k : Kd) (e : Expr) (g : Sl → O) (ks' : List Kd) : Prop where
  run : ∀ (Hs H : Hp) (r : Sl) (σ : L2.St) (W : WX) (Q : VK), Takes X W → StRel E Hs H ks r σ → PostX E ks' k fin W σ Q (g r) → WEx X e σ H Q
@[simp] def onX (o : O) (k : D → Sl → O) : O := match o with
  | .rt d r => k d r
  | .exc x r => .exc x r
  | _ => .stuck
section
variable {X : Cx} {E : En} {fin : List Kd → Prop} {kr : Kd} {ks ks' : List Kd} {i : Nat} {k k0 : Kd} {x : Str} {e : Expr} {g : Sl → O} {pos pos' : Pos}
end
section
variable {X : Cx} {CX : CXT} {k : Nat} {f C : Addr} {fd : FuncData} {ps : List Str} {sp : Sp} {E : L2.St → XK} {x m : Str} {p pos apos : Pos} {e o : Expr} {es : List Expr} {ta : TE} {t : TA}
end
section
variable {X : Cx} {E : En} {fin : List Kd → Prop} {kr : Kd} {ks ks' : List Kd} {i : Nat} {n : Option Addr} {k : Nat} {k1 k2 : List (Str × Kd)} {nb : Nat} {x C m : Str} {e : Expr} {es : List Expr} {f : List D → O} {t : Sl → R (List D)} {p1 apos pos : Pos}
end
section
variable {X : Cx} {E : En} {ks : List Kd} {k nb : Nat} {kk : List (Str × Kd)} {C : Str} {f : List D → O} {t : Sl → R (List D)} {e : Expr} {es : List Expr} {p pos : Pos}
end
end VL
end

noncomputable section
namespace VL
open PySem PySem.Spec PyProof.Rows L2
variable {md : Md}

end VL
end

noncomputable section
namespace VL
open PySem PySem.Spec PyProof.Rows L2
variable {md : Md}

section
variable {X : Cx} {E : En} {kr : Kd} {fin : List Kd → Prop} {ks ks' : List Kd} {e : Expr} {g : Sl → R D} {pos : Pos}
end
end VL
end

noncomputable section
namespace VL
open PySem PySem.Spec PyProof.Rows L2
variable {md : Md}

@[simp] def dDix : D → D → R D
  | .dct kvs, kd => match keyOf kd with
    | some k => match valD kvs k with
      | some d => .ok d
      | none => .stuck
    | none => .stuck
  | _, _ => .stuck
theorem RepK.at_ {cl : Cl} {H : Hp} (k : Key) : ∀ {ds : List (Key × D)} {xs : List (Key × V)} {d : D}, RepK cl H ds xs → valD ds k = some d → ∃ v, valV xs k = some v ∧ Rep cl H d v
  | [], _, _, h, e => by cases e
  | (k0, d0) :: _, _, _, h, e => by
    cases h with
    | cons h1 h2 =>
      by_cases c : k0 = k
      · rw [valD_pos c] at e
        cases e
        rw [valV_pos c]
        exact ⟨_, rfl, h1⟩
      · rw [valD_neg c] at e
        rw [valV_neg c]
        exact RepK.at_ k h2 e
theorem RepK.none_ {cl : Cl} {H : Hp} (k : Key) : ∀ {ds : List (Key × D)} {xs : List (Key × V)}, RepK cl H ds xs → ((valV xs k).isSome = (valD ds k).isSome)
  | [], _, h => by cases h; rfl
  | (k0, d0) :: _, _, h => by
    cases h with
    | cons h1 h2 =>
      by_cases c : k0 = k
      · rw [valD_pos c, valV_pos c]; rfl
      · rw [valD_neg c, valV_neg c]; exact RepK.none_ k h2
section
variable {X : Cx} {E : En} {ks : List Kd} {a b : Expr} {ga gb : Sl → R D} {pos : Pos}
theorem se_dix (hu : X.A.units + 65 < cLine) (ha : SE X E ks .bor a ga) (hb : SE X E ks .bor b gb) (hs : NoSl b := by intro _ _; rfl) : SE X E ks .val (.Subscript a b pos) (gBin dDix ga gb) := by
  refine ⟨fun Hs H r σ W Q tk S P => ?_⟩
  refine we_of (pe_dget (by omega) pe_we pe_we hs) ?_
  refine ha.run _ _ _ _ _ _ tk S (P.imp fun d1 v1 Hs1 H1 e1 g1 k1 P1 => ?_)
  refine hb.run _ _ _ _ _ _ tk (S.grow g1) (P1.imp fun d2 v2 Hs2 H2 e2 g2 k2 P2 => ?_)
  cases d1 <;> first | exact P2.elim | skip
  rename_i kvs
  dsimp only [dDix] at P2
  split at P2
  · rename_i k qk
    have ev := keyOf_rb k2.rb qk
    subst ev
    split at P2
    · rename_i d qd
      obtain ⟨p, xs, rfl, h1, r1⟩ := (k1.rb.grow g2).dctInv g2.sub
      obtain ⟨v, ev, rv⟩ := r1.at_ k qd
      refine ⟨p, v, rfl, ?_, P2.finV g2.sub rv⟩
      rw [← ev]
      exact .inl ⟨_, _, h1, rfl, rfl⟩
    · exact P2.elim
  · exact P2.elim
@[simp] def dDout : D → D → R D
  | kd, .dct kvs => match keyOf kd with
    | some k => .ok (.bl (!(valD kvs k).isSome))
    | none => .stuck
  | _, _ => .stuck
theorem din_read (hu : X.A.units + 65 < cLine) {f : Bool → Bool} {fd : D → D → R D} (hfd : ∀ kd d, fd kd d = match d with
      | .dct kvs => (match keyOf kd with
        | some k => .ok (.bl (f (valD kvs k).isSome))
        | none => .stuck)
      | _ => .stuck) (ha : SE X E ks .bor a ga) (hb : SE X E ks .bor b gb) {Hs H : Hp} {r : Sl} {σ : L2.St} {W : WX} {Q : VK} (tk : Takes X W) (S : StRel E Hs H ks r σ)
    (P : Post E.cl .val Hs H Q (fun c dd H' => W c dd σ H') (gBin fd ga gb r)) : WEx X a σ H fun y H1 => WEx X b σ H1 fun x H2 => ∃ a o, x = .ref a ∧ DGet H2 a y o ∧ Q (.bl (f o.isSome)) H2 := by
  refine ha.run _ _ _ _ _ _ tk S (P.imp fun d1 v1 Hs1 H1 e1 g1 k1 P1 => ?_)
  refine hb.run _ _ _ _ _ _ tk (S.grow g1) (P1.imp fun d2 v2 Hs2 H2 e2 g2 k2 P2 => ?_)
  rw [hfd] at P2
  cases d2 <;> first | exact P2.elim | skip
  rename_i kvs
  dsimp only at P2
  split at P2
  · rename_i k qk
    have ev := keyOf_rb k1.rb qk
    subst ev
    obtain ⟨p, xs, rfl, h1, r1⟩ := k2.rb.dctInv g2.sub
    refine ⟨p, _, rfl, .inl ⟨_, _, h1, rfl, rfl⟩, ?_⟩
    rw [r1.none_ k]
    exact P2.finV g2.sub (.bl _)
  · exact P2.elim
theorem dDout_eq (kd d : D) : dDout kd d = match d with
      | .dct kvs => (match keyOf kd with
        | some k => .ok (.bl (not (valD kvs k).isSome))
        | none => .stuck)
      | _ => .stuck := by cases d <;> first | rfl | (cases kd <;> rfl)
theorem PostT.ofB {cl : Cl} {Hs H : Hp} {Q : Bool → Hp → Prop} {W : WX0} {x : R D} (P : PostT cl Hs H Q W (x >>= asB)) : Post cl .val Hs H (fun v H' => ∃ k, v = .bl k ∧ Q k H') W x := by
  cases x with
  | stuck => exact P
  | exc z => exact P
  | ok d =>
    intro v Hs' H' g rk
    cases d <;> first | exact P.elim | skip
    have rp := rk.rep
    cases rp
    exact ⟨_, rfl, P Hs' H' g⟩
theorem st_dout (hu : X.A.units + 65 < cLine) (ha : SE X E ks .bor a ga) (hb : SE X E ks .bor b gb) (hm : behindInMarks .NotIn b = false := by rfl) : ST X E ks (.Compare a [.NotIn] [b] pos) (gTest (gBin dDout ga gb)) :=
  ⟨fun Hs H r σ W Q tk S P => wt_of (pt_cmp (pc_dnotin (by omega) pe_we pe_we) hm) (din_read hu (f := not) dDout_eq ha hb tk S (PostT.ofB P))⟩
end

theorem RepL.last {cl : Cl} {H : Hp} {ds : List D} {xs : List V} {d : D} (r : RepL cl H ds xs) (h : ds.getLast? = some d) : ∃ v, xs[xs.length - 1]? = some v ∧ Rep cl H d v := by
  rw [List.getLast?_eq_getElem?] at h
  rw [r.length]
  exact r.get h
section
variable {X : Cx} {E : En} {fin : List Kd → Prop} {kr : Kd} {ks ks' : List Kd} {i : Nat} {n : Option Addr} {x : Str} {e b : Expr} {g : Sl → R D} {m : Sl → O} {p1 p2 p3 pos : Pos}
end
end VL
end

noncomputable section
namespace VL
open PySem PySem.Spec PyProof.Rows L2
variable {md : Md}

section
variable {cl : Cl} {k : Kd} {Hs H Hs' H' H0 : Hp}
theorem RK.growA {d : D} {v : V} {A : List Addr} (fk : k.fine = true) (g : Grow Hs H Hs' H') (o : ORep cl (fun a => H0 a = none) H Hs H k d v A) (z : ∀ a ∈ A, Hs a = none ∧ H0 a = none) :
    ORep cl (fun a => H0 a = none) H' Hs' H' k d v A ∧ ∀ a ∈ A, Hs' a = none ∧ H0 a = none := by
  have hr := ORep.here _ _ _ _ o
  have e : ∀ a ∈ A, H' a = H a := fun a ha => by
    obtain ⟨u, e1, e2⟩ := hr a ha
    rw [e1, g.h.at a u e1 e2]
  refine ⟨ORep.anyB _ _ _ _ fk (ORep.mono (B' := H) g.s (Same.refl _) (fun _ q => q) _ _ _ _ e o), fun a ha => ⟨?_, (z a ha).2⟩⟩
  obtain ⟨u, e1, e2⟩ := hr a ha
  cases q : Hs' a with
  | none => rfl
  | some w =>
    rcases g.n a (by rw [q]; simp) with y | y
    · exact absurd (z a ha).1 y
    · rw [e1] at y; cases y
theorem RK.grow {d : D} {v : V} (fk : k.fine = true) (g : Grow Hs H Hs' H') (h : RK cl k H0 Hs H d v) : RK cl k H0 Hs' H' d v := by
  obtain ⟨A, o, nd, z⟩ := h
  obtain ⟨o2, z2⟩ := RK.growA fk g o z
  exact ⟨A, o2, nd, z2⟩
def RLs (cl : Cl) (k : Kd) (H0 Hs H : Hp) (ds : List D) (vs : List V) : Prop := ∃ As, OLs cl (fun a => H0 a = none) H Hs H k ds vs As ∧ As.Nodup ∧ ∀ a ∈ As, Hs a = none ∧ H0 a = none
theorem OLs.anyB {N : Addr → Prop} {B B' : Hp} (fk : k.fine = true) {ds : List D} {xs : List V} {As : List Addr} (h : OLs cl N B Hs H k ds xs As) : OLs cl N B' Hs H k ds xs As :=
  OLs.imp (fun _ => True) (fun _ _ _ => trivial) (fun _ _ _ => trivial) (fun d v A _ o => ORep.anyB k d v A fk o) trivial h
theorem OLs.keep {N : Addr → Prop} {B : Hp} {ds : List D} {xs : List V} {As : List Addr} (s : Same Hs Hs') (e : ∀ a ∈ As, H' a = H a) (h : OLs cl N B Hs H k ds xs As) : OLs cl N B Hs' H' k ds xs As :=
  OLs.imp (fun A => ∀ a ∈ A, H' a = H a) (fun _ _ t a ha => t a (List.mem_append_left _ ha)) (fun _ _ t a ha => t a (List.mem_append_right _ ha)) (fun d v A t o => ORep.mono s (Same.refl _) (fun _ q => q) k d v A t o) e h
theorem OLs.here {N : Addr → Prop} {B : Hp} {ds : List D} {xs : List V} {As : List Addr} (h : OLs cl N B Hs H k ds xs As) : ∀ a ∈ As, ∃ o, H a = some o ∧ NT o := OLs.all (fun d v A o => ORep.here k d v A o) h
theorem OLs.pos : ∀ {N : Addr → Prop} {B : Hp} {ds : List D} {xs : List V} {As : List Addr} (j : Nat) {d : D}, OLs cl N B Hs H k ds xs As → ds[j]? = some d →
    ∃ pre A post v, As = pre ++ (A ++ post) ∧ xs[j]? = some v ∧ ORep cl N B Hs H k d v A ∧
      ∀ Hs' H', Same Hs Hs' → (∀ a ∈ pre ++ post, H' a = H a) → ∀ d' v' A', ORep cl N B Hs' H' k d' v' A' → OLs cl N B Hs' H' k (ds.set j d') (xs.set j v') (pre ++ (A' ++ post))
  | _, _, _, _, _, j, _, .nil, e => by simp at e
  | _, _, _, _, _, 0, _, .cons (A := A) (As := As) o t, e => by
    simp at e
    subst e
    exact ⟨[], A, As, _, rfl, rfl, o, fun Hs' H' s q d' v' A' o' => .cons (A := A') (As := As) o' (OLs.keep s (fun a ha => q a ha) t)⟩
  | _, _, _, _, _, j + 1, _, .cons (A := A0) o t, e => by
    obtain ⟨pre, A, post, v, e1, e2, e3, e4⟩ := OLs.pos j t (by simpa using e)
    refine ⟨A0 ++ pre, A, post, v, by rw [e1, List.append_assoc], by simpa using e2, e3, fun Hs' H' s q d' v' A' o' => ?_⟩
    rw [List.append_assoc]
    exact .cons (ORep.mono s (Same.refl _) (fun _ z => z) _ _ _ _ (fun a ha => q a (List.mem_append_left _ (List.mem_append_left _ ha))) o)
      (e4 Hs' H' s (fun a ha => q a (by
        rcases List.mem_append.mp ha with z | z
        · exact List.mem_append_left _ (List.mem_append_right _ z)
        · exact List.mem_append_right _ z)) d' v' A' o')
theorem RLs.grow {ds : List D} {vs : List V} (fk : k.fine = true) (g : Grow Hs H Hs' H') (h : RLs cl k H0 Hs H ds vs) : RLs cl k H0 Hs' H' ds vs := by
  obtain ⟨A, o, nd, z⟩ := h
  have hr := o.here
  have e : ∀ a ∈ A, H' a = H a := fun a ha => by
    obtain ⟨u, e1, e2⟩ := hr a ha
    rw [e1, g.h.at a u e1 e2]
  refine ⟨A, (OLs.keep g.s e o).anyB fk, nd, fun a ha => ⟨?_, (z a ha).2⟩⟩
  obtain ⟨u, e1, e2⟩ := hr a ha
  cases q : Hs' a with
  | none => rfl
  | some w =>
    rcases g.n a (by rw [q]; simp) with y | y
    · exact absurd (z a ha).1 y
    · rw [e1] at y; cases y
end
section
variable {X : Cx} {E : En} {ks : List Kd} {k : Kd} {e : Expr} {es : List Expr} {g : Sl → R D} {t : Sl → R (List D)} {pos : Pos}
end

section
variable {X : Cx} {E : En} {Hs H : Hp} {ks : List Kd} {r : Sl} {σ : L2.St} {i : Nat} {k : Kd}
end
section
variable {X : Cx} {E : En} {kr : Kd} {fin : List Kd → Prop} {ks : List Kd} {i j : Nat} {n m : Option Addr} {x y : Str} {e : Expr} {g : Sl → R D} {pos p1 p2 p3 p4 p5 p6 : Pos}
end
end VL
end

noncomputable section
namespace VL
open PySem PySem.Spec PyProof.Rows L2
variable {md : Md}

section
variable {X : Cx}
end
end VL
end

noncomputable section
namespace VL
open PySem PySem.Spec PyProof.Rows L2
variable {md : Md}

@[simp] def fStr : List D → R D
  | [.int i] => if i.natAbs.log2 < 1920 then .ok (.str (toString i)) else .stuck
  | [.str x] => .ok (.str x)
  | _ => .stuck
def strsOf : List D → Option (List Str)
  | [] => some []
  | .str x :: r => (strsOf r).map (x :: ·)
  | _ :: _ => none
theorem strsOf_eq : ∀ {ds : List D} {ns : List Str}, strsOf ds = some ns → ds = ns.map D.str
  | [], _, h => by cases h; rfl
  | d :: r, _, h => by
    cases d <;> first | cases h | skip
    rename_i i
    dsimp only [strsOf] at h
    cases q : strsOf r with
    | none => rw [q] at h; cases h
    | some ms =>
      rw [q] at h
      cases h
      rw [strsOf_eq q]
      rfl
theorem strsOf_map : ∀ ns : List Str, strsOf (ns.map D.str) = some ns
  | [] => rfl
  | n :: ns => by
    show (strsOf (ns.map D.str)).map _ = _
    rw [strsOf_map ns]
    rfl
theorem RepL.strs {cl : Cl} {H : Hp} {ns : List Str} : ∀ {vs : List V}, RepL cl H (ns.map D.str) vs → vs = ns.map V.str := by
  induction ns with
  | nil =>
    intro vs h
    cases h
    rfl
  | cons n ns ih =>
    intro vs h
    cases h with
    | cons h1 h2 =>
      cases h1
      rw [ih h2]
      rfl
def dJoin : D → D → R D
  | .str a, .lst ds => match strsOf ds with
    | some ys => if (ys.map (·.length)).sum + ys.length * a.length ≤ szL then .ok (.str (Txt.join a ys)) else .stuck
    | none => .stuck
  | _, _ => .stuck
@[simp] def gJoin (go g : Sl → R D) : Sl → R D := fun r => do
  let d ← go r
  match d with
    | .str a => (do
      let ds ← g r
      dJoin (.str a) ds)
    | _ => .stuck
section
variable {X : Cx} {E : En} {ks : List Kd} {e o : Expr} {g go : Sl → R D} {pos p apos cpos : Pos} {es : List Expr} {t : Sl → R (List D)}
theorem callv_str : CallV X.K (fun xs H Q => (∃ i, xs = [.int i] ∧ i.natAbs.log2 < 1920 ∧ Q (.str (toString i)) H) ∨ ∃ a, xs = [.str a] ∧ Q (.str a) H) .val [false] fStr := by
  intro cl Hs H ds vs Q W e a P
  obtain ⟨d, v, rfl, rfl, r⟩ := a.one
  cases d <;> first | exact P.elim | skip
  · rename_i i
    cases r.intInv
    dsimp only [fStr] at P
    split at P
    · rename_i h
      exact .inl ⟨_, rfl, h, P.finV e (.str _)⟩
    · exact P.elim
  · cases r.strInv
    exact .inr ⟨_, rfl, P.finV e (.str _)⟩
theorem se_join (ho : SE X E ks .bor o go) (he : SE X E ks .bor e g) (hs : starEach [e] X.env = [(false, eval e X.env)] := by rfl) (hbase : attributeBase o "join" X.env (eval o X.env) = eval o X.env := by rfl) (hline : (apos.endLine == pos.line) = true := by rfl) :
    SE X E ks .val (.Call (.Attribute o "join" apos) [e] [] pos) (gJoin go g) := by
  refine ⟨fun Hs H r σ W Q tk S P => ?_⟩
  refine we_of (pe_join pe_we pe_we hs hbase hline) ?_
  refine ho.run _ _ _ _ _ _ tk S (P.imp fun d1 v1 Hs1 H1 e1 g1 k1 P1 => ?_)
  cases d1 <;> first | exact P1.elim | skip
  rename_i a
  cases k1.rb.strInv
  refine ⟨⟨a, rfl⟩, he.run _ _ _ _ _ _ tk (S.grow g1) (P1.imp fun d2 v2 Hs2 H2 e2 g2 k2 P2 => ?_)⟩
  unfold dJoin at P2
  cases d2 <;> first | exact P2.elim | skip
  dsimp only at P2
  split at P2
  · rename_i ys q
    split at P2
    · rename_i hz
      obtain ⟨b, xs, rfl, h1, r1⟩ := k2.rb.lstInv g2.sub
      rw [strsOf_eq q] at r1
      rw [r1.strs] at h1
      exact ⟨a, b, ys, rfl, rfl, .inl (SqL.of h1), by rw [szL_val] at hz; exact hz, P2.finV g2.sub (.str _)⟩
    · exact P2.elim
  · exact P2.elim
end
section
variable {X : Cx} {E : En} {ks : List Kd} {e o : Expr} {g go : Sl → R D} {pos p apos cpos : Pos} {es : List Expr} {t : Sl → R (List D)}
theorem sf_Str (B : Bl X.mg) (ha : SA X E ks [false] (e :: es) t) (hc : X.calm = true := by rfl) (hg : Gl X "str" := by rfl) (he : starEach (e :: es) X.env = (false, eval e X.env) :: starEach es X.env := by rfl) (hpl : (backTo pos (starEach es X.env)).any (·.1) = false := by rfl) : SE X E ks (.val) (.Call (.Name "str" p) (e :: es) [] pos) (gCall fStr t) :=
  se_callTy (call_str_int.or SkE.call_str_str) callv_str B.str bb_str ha hg bn_str bd_str he hpl
end
end VL
end

noncomputable section
namespace VL
open PySem PySem.Spec PyProof.Rows L2
variable {md : Md}

open Classical in
def sw (a : Addr) (u o : HO) (f : Hp) : Hp := fun b => if b = a ∧ f b = some u then some o else f b
section
variable {a : Addr} {u o : HO} {f g : Hp}
theorem sw_at (h : f a = some u) : sw a u o f a = some o := by unfold sw; rw [if_pos ⟨rfl, h⟩]
theorem sw_ne {b : Addr} (h : b ≠ a) : sw a u o f b = f b := by unfold sw; rw [if_neg fun z => h z.1]
theorem sw_no {b : Addr} (h : f b ≠ some u) : sw a u o f b = f b := by unfold sw; rw [if_neg fun z => h z.2]
theorem sw_none {b : Addr} : sw a u o f b = none ↔ f b = none := by
  unfold sw
  split
  · rename_i z
    rw [z.2]
    exact ⟨fun w => (nomatch w), fun w => (nomatch w)⟩
  · exact Iff.rfl
theorem sw_keep {b : Addr} {y : HO} (h : f b = some y) (n : y ≠ u) : sw a u o f b = some y := by
  rw [sw_no fun z => n (by rw [h] at z; exact Option.some.inj z)]
  exact h
theorem Same.sw (nt : NT u) (e : Same f g) : Same (sw a u o f) (sw a u o g) := ⟨fun b y q n => by
  by_cases c : b = a ∧ f b = some u
  · obtain ⟨rfl, c⟩ := c
    rw [sw_at c] at q
    rw [sw_at (e.at _ _ c nt)]
    exact q
  · have q2 : f b = some y := by
      unfold VL.sw at q
      rw [if_neg c] at q
      exact q
    have g2 : g b = some y := e.k b y q2 (n.imp id fun z => sw_none.mp z)
    by_cases d : b = a
    · subst d
      exact sw_keep g2 fun z => c ⟨rfl, by rw [q2, z]⟩
    · rw [sw_ne d]; exact g2⟩
theorem tab_sw {P : Addr} (nt : NT u) (nc : ∀ c q, u ≠ LamX.CodeO c q) (z : LamX.TabS f P lamQ) : LamX.TabS (VL.sw a u o f) P lamQ := by
  obtain ⟨ps, h1, h2, h3⟩ := z
  refine ⟨ps, sw_keep h1 fun w => nt ps w.symm, h2, fun pos cv hc => ?_⟩
  obtain ⟨c, e1, e2⟩ := h3 pos cv hc
  exact ⟨c, e1, sw_keep e2 fun w => nc c lamQ w.symm⟩
end
/-- open, locked -/
inductive Two (xs : List (Key × V)) : HO → HO → Prop
  | lock {od : Obj} : Two xs (.dK xs) (.frz od (.dK xs))
  | open_ {od : Obj} : Two xs (.frz od (.dK xs)) (.dK xs)
section
variable {a : Addr} {u o : HO} {xs : List (Key × V)} {cl : Cl} {H Hs B : Hp}
theorem Two.ntU (t : Two xs u o) : NT u := by cases t <;> (intro _ z; cases z)
theorem Two.nc (t : Two xs u o) : ∀ c q, u ≠ LamX.CodeO c q := by
  cases t <;> (intro _ _ z; unfold LamX.CodeO at z; cases z)
theorem Two.ne (t : Two xs u o) : u ≠ o := by cases t <;> (intro z; cases z)
theorem Two.lst (t : Two xs u o) (ys : List V) : HO.lst ys ≠ u := by cases t <;> (intro z; cases z)
theorem Two.tup (t : Two xs u o) (ys : List V) : HO.tup ys ≠ u := by cases t <;> (intro z; cases z)
theorem Two.ins (t : Two xs u o) (c dx : Addr) (ys : List (Str × V)) : HO.ins c dx ys ≠ u := by cases t <;> (intro z; cases z)
theorem Two.xd (t : Two xs u o) (ys : List (Str × V)) : HO.xd ys ≠ u := by cases t <;> (intro z; cases z)
theorem Two.rd (t : Two xs u o) {p : Addr} {ys : List (Key × V)} (h : Rd H p (.dK ys)) : Rd (sw a u o H) p (.dK ys) := by
  by_cases c : p = a ∧ H p = some u
  · obtain ⟨rfl, c⟩ := c
    have e := sw_at (o := o) c
    cases t with
    | lock =>
      rename_i od
      rcases h with h | ⟨o2, h⟩
      · rw [c] at h; cases h; exact .inr ⟨od, e⟩
      · rw [c] at h; cases h
    | open_ =>
      rcases h with h | ⟨o2, h⟩
      · rw [c] at h; cases h
      · rw [c] at h; cases h; exact .inl e
  · have e : sw a u o H p = H p := by unfold sw; rw [if_neg c]
    unfold Rd
    rw [e]
    exact h
theorem Two.seq (t : Two xs u o) {K : PySem.W.Frag} {p : Addr} {ys : List V} (h : SqL K H p ys) : SqL K (sw a u o H) p ys := by
  rcases h with (h | ⟨o2, h⟩) | h
  · exact .inl (.inl (sw_keep h (t.lst _)))
  · exact .inl (.inr ⟨o2, sw_keep h (by cases t <;> (intro z; cases z))⟩)
  · exact .inr h
mutual
theorem Rep.sw (t : Two xs u o) : ∀ (d : D) (v : V), Rep cl H d v → Rep cl (sw a u o H) d v
  | .non, _, h => by cases h; exact .non
  | .bl b, _, h => by cases h; exact .bl b
  | .int i, _, h => by cases h; exact .int i
  | .str x, _, h => by cases h; exact .str x
  | .lst ds, _, h => by
    cases h with
    | lst h1 h2 => exact .lst (sw_keep h1 (t.lst _)) (RepL.sw t ds _ h2)
  | .tup ds, _, h => by
    cases h with
    | tup h1 h2 => exact .tup (sw_keep h1 (t.tup _)) (RepL.sw t ds _ h2)
  | .dct ds, _, h => by
    cases h with
    | dct h1 h2 => exact .dct (t.rd h1) (RepK.sw t ds _ h2)
  | .obj C ds, _, h => by
    cases h with
    | obj h0 h1 h2 => exact .obj h0 (sw_keep h1 (t.ins _ _ _)) (RepF.sw t ds _ h2)
  | .scr ns, _, h => by
    cases h with
    | scr h1 => exact .scr (t.seq h1)
theorem RepL.sw (t : Two xs u o) : ∀ (ds : List D) (vs : List V), RepL cl H ds vs → RepL cl (sw a u o H) ds vs
  | [], _, h => by cases h; exact .nil
  | d :: ds, _, h => by
    cases h with
    | cons h1 h2 => exact .cons (Rep.sw t d _ h1) (RepL.sw t ds _ h2)
theorem RepK.sw (t : Two xs u o) : ∀ (ds : List (Key × D)) (vs : List (Key × V)), RepK cl H ds vs → RepK cl (sw a u o H) ds vs
  | [], _, h => by cases h; exact .nil
  | (k, d) :: ds, _, h => by
    cases h with
    | cons h1 h2 => exact .cons (Rep.sw t d _ h1) (RepK.sw t ds _ h2)
theorem RepF.sw (t : Two xs u o) : ∀ (ds : List (Str × D)) (vs : List (Str × V)), RepF cl H ds vs → RepF cl (sw a u o H) ds vs
  | [], _, h => by cases h; exact .nil
  | (k, d) :: ds, _, h => by
    cases h with
    | cons h1 h2 => exact .cons (Rep.sw t d _ h1) (RepF.sw t ds _ h2)
end
mutual
theorem RB.sw (t : Two xs u o) : ∀ {d : D} {v : V}, RB cl Hs B d v → RB cl (sw a u o Hs) (sw a u o B) d v
  | _, _, .val r => .val (Rep.sw t _ _ r)
  | _, _, .lst h1 h2 => .lst (sw_keep h1 (t.lst _)) (RepL.sw t _ _ h2)
  | _, _, .dct h1 h2 => .dct (t.rd h1) (RepK.sw t _ _ h2)
  | _, _, .obj h0 h1 h2 => .obj h0 (sw_keep h1 (t.ins _ _ _)) (RBF.sw t h2)
theorem RBF.sw (t : Two xs u o) : ∀ {ds : List (Str × D)} {vs : List (Str × V)}, RBF cl Hs B ds vs → RBF cl (sw a u o Hs) (sw a u o B) ds vs
  | _, _, .nil => .nil
  | _, _, .cons x y => .cons (RB.sw t x) (RBF.sw t y)
end
variable {N : Addr → Prop}
mutual
theorem ORep.sw (t : Two xs u o) : ∀ (k : Kd) (d : D) (v : V) (A : List Addr), (∀ b ∈ A, b ≠ a) → ORep cl N B Hs H k d v A → ORep cl N (sw a u o B) (sw a u o Hs) (sw a u o H) k d v A
  | .val, d, v, _, _, h => by
    cases h with
    | val h1 => exact .val (Rep.sw t _ _ h1)
  | .bor, d, v, _, _, h => by
    cases h with
    | borV h1 => exact .borV (Rep.sw t _ _ h1)
    | borL h1 h2 => exact .borL (sw_keep h1 (t.lst _)) (RepL.sw t _ _ h2)
    | borK h1 h2 => exact .borK (t.rd h1) (RepK.sw t _ _ h2)
    | borO h0 h1 h2 => exact .borO h0 (sw_keep h1 (t.ins _ _ _)) (RBF.sw t h2)
  | .own n, d, v, _, k, h => by
    cases h with
    | ownL h0 h1 h2 => exact .ownL h0 (sw_keep h1 (t.lst _)) (RepL.sw t _ _ h2)
    | ownK h0 h1 h2 => exact .ownK h0 (by rw [sw_ne (k _ List.mem_cons_self)]; exact h1) (RepK.sw t _ _ h2)
    | ownV h0 h1 => exact .ownV h0 (Rep.sw t _ _ h1)
  | .obj n ks, d, v, _, k, h => by
    cases h with
    | obj h0 h1 h2 h3 => exact .obj h0 h1 (sw_keep h2 (t.ins _ _ _)) (OFs.sw t ks _ _ _ (fun b hb => k b (List.mem_cons_of_mem _ hb)) h3)
  | .adr p, d, v, _, _, h => by
    cases h with
    | adr => exact .adr
  | .lls n kd, d, v, _, k, h => by
    cases h with
    | lls h0 h1 h2 => exact .lls h0 (sw_keep h1 (t.lst _)) (OLs.imp (fun A => ∀ b ∈ A, b ≠ a) (fun _ _ t b hb => t b (List.mem_append_left _ hb)) (fun _ _ t b hb => t b (List.mem_append_right _ hb)) (fun d v A q r => ORep.sw t kd d v A q r) (fun b hb => k b (List.mem_cons_of_mem _ hb)) h2)
    | llT h0 h1 h2 => exact .llT h0 (sw_keep h1 (t.tup _)) (OLs.imp (fun A => ∀ b ∈ A, b ≠ a) (fun _ _ t b hb => t b (List.mem_append_left _ hb)) (fun _ _ t b hb => t b (List.mem_append_right _ hb)) (fun d v A q r => ORep.sw t kd d v A q r) (fun b hb => k b (List.mem_cons_of_mem _ hb)) h2)
    | llV h0 h1 => exact .llV h0 (Rep.sw t _ _ h1)
theorem OFs.sw (t : Two xs u o) : ∀ (ks : List (Str × Kd)) (ds : List (Str × D)) (vs : List (Str × V)) (A : List Addr), (∀ b ∈ A, b ≠ a) → OFs cl N B Hs H ks ds vs A → OFs cl N (sw a u o B) (sw a u o Hs) (sw a u o H) ks ds vs A
  | [], _, _, _, _, h => by cases h; exact .nil
  | (f, kd) :: ks, _, _, _, k, h => by
    cases h with
    | cons h1 h2 => exact .cons (ORep.sw t kd _ _ _ (fun b hb => k b (List.mem_append_left _ hb)) h1) (OFs.sw t ks _ _ _ (fun b hb => k b (List.mem_append_right _ hb)) h2)
end
end
/-- the entry, a dict's object exchanged -/
def En.sw (E : En) (a : Addr) (u o : HO) : En := ⟨E.cl, E.h, VL.sw a u o E.s, VL.sw a u o E.b⟩
section
variable {E : En} {Hs H : Hp} {ks : List Kd} {r : Sl} {σ : L2.St} {a : Addr} {u o : HO} {xs : List (Key × V)}
theorem Slots.sw (t : Two xs u o) : ∀ {ks : List Kd} {r : Sl} {σ : L2.St} {As : List Addr}, (∀ b ∈ As, b ≠ a) → Slots E Hs H ks r σ As → Slots (E.sw a u o) (VL.sw a u o Hs) (VL.sw a u o H) ks r σ As
  | _, _, _, _, _, .nil => .nil
  | _, _, _, _, k, .skip h => .skip (Slots.sw t k h)
  | _, _, _, _, k, .cons h1 h2 => .cons (ORep.sw t _ _ _ _ (fun b hb => k b (List.mem_append_left _ hb)) h1) (Slots.sw t (fun b hb => k b (List.mem_append_right _ hb)) h2)
theorem StRel.sw (t : Two xs u o) (ha : Hs a ≠ none) (S : StRel E Hs H ks r σ) : StRel (E.sw a u o) (VL.sw a u o Hs) (VL.sw a u o H) ks r σ := by
  obtain ⟨As, S⟩ := S
  have off : ∀ b ∈ As, b ≠ a := fun b hb z => ha (by rw [← z]; exact (S.dis b hb).1)
  exact ⟨As, Slots.sw t off S.sl, S.nd, fun b hb => ⟨sw_none.mpr (S.dis b hb).1, (sw_none (a := a) (u := u) (o := o) (f := E.b)).mpr (S.dis b hb).2⟩, S.es.sw t.ntU, S.sub.sw t.ntU, S.eb.sw t.ntU,
    fun b z => (S.new b (fun w => z (sw_none.mpr w))).imp (fun w q => w ((sw_none (a := a) (u := u) (o := o) (f := E.s)).mp q)) id, fun b z => S.dom b (sw_none.mp z), fun P z => tab_sw t.ntU t.nc (S.tb P z)⟩
end

section
variable {X : Cx} {E : En} {kr : Kd} {ks : List Kd} {pos p1 : Pos} {i : Nat} {x : Str}
end
end VL
end

noncomputable section
namespace VL
open PySem PySem.Spec PyProof.Rows L2
variable {md : Md}

section
variable {prog : Program} {w : World} {A : Around} {E : Value → Shared → Prop} {s : Shared}
end
section
variable {X : Cx} {E : En} {ks : List Kd} {a b : Expr} {ga gb : Sl → R D} {p p2 q pos : Pos}
end
end VL
end

noncomputable section
namespace VL
open PySem PySem.Spec PyProof.Rows L2
variable {md : Md}

theorem OLs.app {cl : Cl} {N : Addr → Prop} {B Hs H : Hp} {k : Kd} : ∀ {ds : List D} {xs : List V} {As : List Addr} {es : List D} {ys : List V} {Bs : List Addr}, OLs cl N B Hs H k ds xs As → OLs cl N B Hs H k es ys Bs → OLs cl N B Hs H k (ds ++ es) (xs ++ ys) (As ++ Bs)
  | _, _, _, _, _, _, .nil, h => h
  | _, _, _, _, _, _, .cons o t, h => by
    rw [List.append_assoc]
    exact .cons o (OLs.app t h)
section
variable {E : En} {Hs H : Hp} {ks : List Kd} {r : Sl} {σ : L2.St} {n m : Option Addr} {k : Kd} {ds es : List D} {v w : V}
end
section
variable {X : Cx} {E : En} {kr : Kd} {fin : List Kd → Prop} {ks ks' : List Kd} {i : Nat} {k : Kd} {x : Str} {e : Expr} {g : Sl → R D} {pos p1 p2 p3 : Pos}
end
section
variable {X : Cx} {E : En} {kr : Kd} {fin : List Kd → Prop} {ks : List Kd} {i j : Nat} {n m : Option Addr} {x y : Str} {e : Expr} {g : Sl → R D} {pos p1 p2 p3 p4 p5 p6 p7 p8 p9 p10 : Pos}
end

section
variable {X : Cx} {E : En} {ks : List Kd} {i j : Nat} {n m : Option Addr} {x y : Str} {scope : Scope} {pos p1 p2 p3 p4 p5 : Pos}
end

end VL
end

noncomputable section
namespace VL
open PySem PySem.Spec PyProof.Rows L2
variable {md : Md}

section
variable {X : Cx} {E : En} {ks : List Kd} {e : Expr} {g : Sl → R D} {C f : Str} {pos : Pos}
end
section
variable {X : Cx} {E : En} {ks : List Kd} {o e : Expr} {es : List Expr} {go : Sl → R D} {t : Sl → R (List D)} {C m : Str} {k : Nat} {b0 : Bool} {bs : List Bool} {kr : Kd} {f : List D → R D} {apos pos : Pos}
theorem RK.kd {cl : Cl} {H0 Hs H : Hp} {d : D} {v : V} {b0 : Bool} (h : RK cl (kdOf b0) H0 Hs H d v) : RB cl Hs H d v := by
  cases b0 with
  | true => exact .val (RK.rep h)
  | false => exact RK.rb h
theorem RAs.kd {cl : Cl} {Hs H H0 Hs' H' : Hp} {d : D} {v : V} {b0 : Bool} {bs : List Bool} {ds : List D} {vs : List V} (h : RK cl (kdOf b0) H0 Hs H d v) (g : Grow Hs H Hs' H') (a : RAs cl Hs' H' bs ds vs) : RAs cl Hs' H' (b0 :: bs) (d :: ds) (v :: vs) := by
  cases b0 with
  | true => exact .val (Rep.same g.s _ _ (RK.rep h)) a
  | false => exact .bor ((RK.rb h).grow g) a
end
theorem RepK.keys {cl : Cl} {H : Hp} : ∀ {ds : List (Key × D)} {xs : List (Key × V)}, RepK cl H ds xs → RepL cl H (ds.map fun p => keyD p.1) (xs.map fun kv => kV kv.1)
  | [], _, h => by cases h; exact .nil
  | (k, d) :: ds, _, h => by
    cases h with
    | cons h1 h2 => exact .cons (keyRep k) (RepK.keys h2)
theorem RK.ownNewK {cl : Cl} {Hs H : Hp} {ds : List (Key × D)} {xs : List (Key × V)} {p : Addr} (e : Same Hs H) (hp : H p = none) (r : RepK cl Hs ds xs) : RK cl (.own none) H Hs (upd H p (.dK xs)) (.dct ds) (.ref p) :=
  ⟨[p], .ownK ⟨hp, fun _ z => nomatch z⟩ upd_same r, by simp, fun a ha => by
    have q : a = p := by simpa using ha
    subst q
    exact ⟨e.free hp, hp⟩⟩
section
variable {X : Cx} {E : En} {ks : List Kd} {e o : Expr} {es : List Expr} {t : Sl → R (List D)} {p pos : Pos}
end

section
variable {E : En} {Hs H : Hp} {ks : List Kd} {r : Sl} {σ : L2.St} {i j : Nat} {n : Option Addr} {kk : List (Str × Kd)} {f C : Str} {ds : List (Str × D)}
end
def delD (ds : List (Key × D)) (k : Key) : List (Key × D) := ds.filter fun kv => decide (kv.1 ≠ k)
theorem RepK.del {cl : Cl} {H : Hp} (k : Key) : ∀ {ds : List (Key × D)} {xs : List (Key × V)}, RepK cl H ds xs → RepK cl H (delD ds k) (dropK xs k)
  | [], _, h => by cases h; exact .nil
  | (k0, d) :: ds, _, h => by
    cases h with
    | cons h1 h2 =>
      by_cases c : k0 = k
      · simpa [delD, dropK, List.filter_cons, c] using RepK.del k h2
      · have z := RepK.cons (k := k0) h1 (RepK.del k h2)
        simpa [delD, dropK, List.filter_cons, c] using z
section
variable {X : Cx} {E : En} {fin : List Kd → Prop} {kr : Kd} {ks ks' : List Kd} {i j : Nat} {n m0 : Option Addr} {kk : List (Str × Kd)} {C f x : Str} {e e2 : Expr} {g g2 : Sl → R D} {p0 p1 p2 p3 pos : Pos} {sts : List Stmt} {m : Sl → O}
end
end VL
end

noncomputable section
namespace VL
open PySem PySem.Spec PyProof.Rows L2
variable {md : Md}

def dSplit (a b : D) : R D := match a, b with
  | .str x, .str y => if (y.length == 0) = false ∧ x.length + 2 ≤ szL then .ok (.lst ((Txt.split x y).map D.str)) else .stuck
  | _, _ => .stuck
theorem RepL.ofStrs {cl : Cl} {H : Hp} (ys : List Str) : RepL cl H (ys.map D.str) (ys.map V.str) := by
  induction ys with
  | nil => exact .nil
  | cons n ns ih => exact .cons (.str n) ih
@[simp] def gSplit (go g : Sl → R D) : Sl → R D := fun r => do
  let a ← go r
  match a with
    | .str x => (do
      let b ← g r
      dSplit (.str x) b)
    | _ => .stuck
section
variable {X : Cx} {E : En} {ks : List Kd} {e f o : Expr} {g gf go : Sl → R D} {pos apos cpos : Pos}
theorem se_split (ho : SE X E ks .bor o go) (he : SE X E ks .bor e g) (hs : starEach [e] X.env = [(false, eval e X.env)] := by rfl) (hbase : attributeBase o "split" X.env (eval o X.env) = eval o X.env := by rfl) (hline : (apos.endLine == pos.line) = true := by rfl) :
    SE X E ks (.own none) (.Call (.Attribute o "split" apos) [e] [] pos) (gSplit go g) := by
  refine ⟨fun Hs H r σ W Q tk S P => ?_⟩
  refine we_of (pe_split pe_we pe_we hs hbase hline) ?_
  refine ho.run _ _ _ _ _ _ tk S (P.imp fun d1 v1 Hs1 H1 e1 g1 k1 P1 => ?_)
  cases d1 <;> first | exact P1.elim | skip
  rename_i a
  cases k1.rb.strInv
  refine ⟨⟨a, rfl⟩, he.run _ _ _ _ _ _ tk (S.grow g1) (P1.imp fun d2 v2 Hs2 H2 e2 g2 k2 P2 => ?_)⟩
  unfold dSplit at P2
  cases d2 <;> first | exact P2.elim | skip
  cases k2.rb.strInv
  dsimp only at P2
  split at P2
  · rename_i h
    exact ⟨a, _, rfl, rfl, h.1, by rw [szL_eq]; exact h.2, fun p hp => P2.finL g2.sub hp (RepL.ofStrs _)⟩
  · exact P2.elim
end
section
variable {X : Cx} {E : En} {fin : List Kd → Prop} {kr : Kd} {ks : List Kd} {i : Nat} {n : Option Addr} {x : Str} {e : Expr} {g : Sl → R D} {p1 p2 p3 pos : Pos}
end
end VL
end

noncomputable section
namespace VL
open PySem PySem.Spec PyProof.Rows L2
variable {md : Md}

section
variable {E : En} {Hs H Hs' H' : Hp} {ks : List Kd} {r : Sl} {σ : L2.St}
end
def Kd.nm : Kd → Option Addr
  | .own n => n
  | .obj n _ => n
  | .lls n _ => n
  | _ => none
def NmsOk : List Kd → List Addr → Prop
  | [], [] => True
  | k :: ks, a :: as => (∀ b, k.nm = some b → b = a) ∧ NmsOk ks as
  | _, _ => False
section
variable {cl : Cl} {N : Addr → Prop} {B Hs H : Hp}
theorem ORep.pin {k : Kd} {d : D} {v : V} {A : List Addr} (m : k.mutb = true) (hd : d.plain = false) (h : ORep cl N B Hs H k d v A) : ∃ a, v = .ref a ∧ ORep cl N B Hs H ((k.re none).re (some a)) d (.ref a) A ∧ ∀ b, k.nm = some b → b = a := by
  cases h with
  | val _ => cases m
  | borV _ => cases m
  | borL _ _ => cases m
  | borK _ _ => cases m
  | borO _ _ _ => cases m
  | adr => cases m
  | ownL h0 h1 h2 => exact ⟨_, rfl, .ownL ⟨h0.1, fun b z => (Option.some.inj z).symm⟩ h1 h2, h0.2⟩
  | ownK h0 h1 h2 => exact ⟨_, rfl, .ownK ⟨h0.1, fun b z => (Option.some.inj z).symm⟩ h1 h2, h0.2⟩
  | ownV p _ => rw [hd] at p; cases p
  | obj h0 h1 h2 h3 => exact ⟨_, rfl, .obj ⟨h0.1, fun b z => (Option.some.inj z).symm⟩ h1 h2 h3, h0.2⟩
  | lls h0 h1 h2 => exact ⟨_, rfl, .lls ⟨h0.1, fun b z => (Option.some.inj z).symm⟩ h1 h2, h0.2⟩
  | llT h0 h1 h2 => exact ⟨_, rfl, .llT ⟨h0.1, fun b z => (Option.some.inj z).symm⟩ h1 h2, h0.2⟩
  | llV p _ => rw [D.bare_plain p] at hd; cases hd
theorem RM.pin : ∀ {kf : List Kd} {df : List D} {uf : List V} {A : List Addr}, kf.all Kd.mutb = true → df.all (fun d => !d.plain) = true → RM cl N B Hs H kf df uf A →
    ∃ as : List Addr, uf = as.map .ref ∧ as.length = kf.length ∧ RM cl N B Hs H (pins (kf.map (·.re none)) as) df (as.map .ref) A ∧ NmsOk kf as
  | _, _, _, _, _, _, .nil => ⟨[], rfl, rfl, .nil, trivial⟩
  | _, _, _, _, m, p, .cons o t => by
    rw [List.all_cons, Bool.and_eq_true] at m p
    obtain ⟨as, e, l, rm, nm⟩ := RM.pin m.2 p.2 t
    obtain ⟨a, ea, oa, na⟩ := ORep.pin m.1 (by simpa using p.1) o
    subst e ea
    exact ⟨a :: as, rfl, by simp [l], .cons oa rm, na, nm⟩
end
section
variable {X : Cx} {E : En} {ks : List Kd} {is : List Nat} {fr : Bool} {bs : List Bool} {es : List Expr} {t : Sl → R (List D)} {i : Nat} {x : Str} {p pos : Pos}
end
section
variable {X : Cx} {E : En} {fin : List Kd → Prop} {kr : Kd} {ks ks' : List Kd} {is : List Nat} {kf : List Kd} {k n : Nat} {bs0 : Bool} {k1 k2 : List Kd} {bs : List Bool} {x : Str} {e : Expr} {es : List Expr} {f : List D → O} {t : Sl → R (List D)} {p pos : Pos}
end
end VL
end

noncomputable section
namespace VL
open PySem PySem.Spec PyProof.Rows L2
variable {md : Md}

section
variable {X : Cx} {E : En} {fin : List Kd → Prop} {kr : Kd} {ks ks' : List Kd} {i : Nat} {n : Option Addr} {x : Str} {p1 p2 p3 pos : Pos}
end

section
variable {X : Cx} {E : En} {fin : List Kd → Prop} {kr : Kd} {ks ks' : List Kd} {k : Nat} {b0 : Bool} {bs : List Bool} {x : Str} {e : Expr} {es : List Expr} {f : List D → R D} {g : Sl → O} {t : Sl → R (List D)} {p pos : Pos}
end

def PostTX (E : En) (ks' : List Kd) (fin : List Kd → Prop) (W : WX) (σ : L2.St) (Q : Bool → Hp → Prop) : O → Prop
  | .rt (.bl b) r => ∀ Hs' H', StRel E Hs' H' ks' r σ → Q b H'
  | .exc x r => ∀ Hs' H' c dd ks2, fin ks2 → StRel E Hs' H' ks2 r σ → XRep E.cl Hs' H' x c dd → W c dd σ H'
  | _ => False
@[simp] def onB (o : O) (k : Bool → Sl → O) : O := match o with
  | .rt (.bl b) r => k b r
  | .exc x r => .exc x r
  | _ => .stuck
theorem PostTX.on {E : En} {ks' : List Kd} {fin : List Kd → Prop} {W : WX} {σ : L2.St} {Q1 : Bool → Hp → Prop} {o : O} {kk : Bool → Sl → O} {F : O → Prop} (hs : ¬ F .stuck) (hx : ∀ x r, F (.exc x r) → ∀ Hs' H' c dd ks2, fin ks2 → StRel E Hs' H' ks2 r σ → XRep E.cl Hs' H' x c dd → W c dd σ H') (P : F (onB o kk))
    (h : ∀ b r' Hs' H', o = .rt (.bl b) r' → StRel E Hs' H' ks' r' σ → F (kk b r') → Q1 b H') : PostTX E ks' fin W σ Q1 o := by
  cases o with
  | stuck => exact (hs P).elim
  | nx r => exact (hs P).elim
  | exc x r => exact hx x r P
  | rt d r =>
    cases d <;> first | exact (hs P).elim | skip
    rename_i b
    exact fun Hs' H' S => h b r Hs' H' rfl S P
section
variable {X : Cx} {E : En} {fin : List Kd → Prop} {kr : Kd} {ks ks1 ks' : List Kd} {e a b : Expr} {rest : List Expr} {g ga : Sl → O} {tb : Sl → R Bool} {m1 m2 : Sl → O} {s1 s2 : List Stmt} {pos : Pos}
end
end VL
end

noncomputable section
namespace VL
open PySem PySem.Spec PyProof.Rows L2
open ModeZ

/-- the lambda object at f, with its code object at cN -/
def LamO (X : Cx) (f cN : Addr) (params : Arguments) (body : Expr) (scope : Scope) : HO := .ext fun h => ∃ pm ctv : Value, h.get? f = some (PySem.W.kla_obj "<lambda>" (X.env.qual ++ "<lambda>") params body scope (cloFrom X.env.cells scope.names []) pm cN ctv)
theorem lamO_nt {X : Cx} {f cN : Addr} {params : Arguments} {body : Expr} {scope : Scope} : NT (LamO X f cN params body scope) := fun ps z => by
  unfold LamO at z
  cases z
section
variable {X : Cx} {pins : List (Addr × Obj)} {σ : L2.St} {H : Hp} {s : Shared}
end
section
variable {X : Cx} {E : En} {fin : List Kd → Prop} {kr : Kd} {ks ks' : List Kd} {k : Nat}
/-- at f stands a lambda that does what g tells -/
def Acts (X : Cx) (E : En) (fin : List Kd → Prop) (kr : Kd) (ks ks' : List Kd) (k : Nat) (f : Addr) (H : Hp) (g : Sl → O) : Prop := ∃ (params : Arguments) (body : Expr) (scope : Scope) (cN : Addr), H f = some (LamO X f cN params body scope) ∧ H cN = some (LamX.CodeO cN (X.env.qual ++ "<lambda>")) ∧ LamX.LamS X.env.scope scope ∧
  (∀ (q : Str) (cl : List (Str × Addr)) (pm cv ctv : Value), bindArgs (PySem.W.kla_fn "<lambda>" q params body scope cl pm cv ctv) ⟨[], []⟩ = pure []) ∧
  ∀ (A : Around) (outer : List Env) (s1 : Shared) (H1 : Hp) (Ex : XK), Room k (A.deeper (LamX.lamEnv X scope s1.heap.objs.size f cN)) → SX (LamX.lamCx X A outer s1 H1 Ex scope f cN) E fin ks kr body g ks'
theorem Acts.same {f : Addr} {H H' : Hp} {g : Sl → O} (h : Acts X E fin kr ks ks' k f H g) (e : Same H H') : Acts X E fin kr ks ks' k f H' g := by
  obtain ⟨params, body, scope, cN, h1, h2, h3⟩ := h
  exact ⟨params, body, scope, cN, e.at _ _ h1 lamO_nt, e.at _ _ h2 (fun ps => codeO_tbl ps), h3⟩
def AllC (X : Cx) (E : En) (fin : List Kd → Prop) (kr : Kd) (ks ks' : List Kd) (k : Nat) (H : Hp) : List (Str × (Sl → O)) → List (Str × Addr) → Prop
  | [], [] => True
  | p :: gs, q :: fs => p.1 = q.1 ∧ Acts X E fin kr ks ks' k q.2 H p.2 ∧ AllC X E fin kr ks ks' k H gs fs
  | _, _ => False
theorem AllC.same {H H' : Hp} (e : Same H H') : ∀ {gs : List (Str × (Sl → O))} {fs : List (Str × Addr)}, AllC X E fin kr ks ks' k H gs fs → AllC X E fin kr ks ks' k H' gs fs
  | [], [], h => h
  | [], _ :: _, h => h.elim
  | _ :: _, [], h => h.elim
  | p :: gs, q :: fs, h => ⟨h.1, h.2.1.same e, AllC.same e h.2.2⟩
theorem AllC.keys {H : Hp} : ∀ {gs : List (Str × (Sl → O))} {fs : List (Str × Addr)}, AllC X E fin kr ks ks' k H gs fs → fs.map (·.1) = gs.map (·.1)
  | [], [], h => rfl
  | [], _ :: _, h => h.elim
  | _ :: _, [], h => h.elim
  | p :: gs, q :: fs, h => by rw [List.map_cons, List.map_cons, h.1, h.2.2.keys]
theorem AllC.imp {H H' : Hp} (e : ∀ b o, H b = some o → o ≠ .dK [] → H' b = some o) : ∀ {gs : List (Str × (Sl → O))} {fs : List (Str × Addr)}, AllC X E fin kr ks ks' k H gs fs → AllC X E fin kr ks ks' k H' gs fs
  | [], [], h => h
  | [], _ :: _, h => h.elim
  | _ :: _, [], h => h.elim
  | p :: gs, q :: fs, h => by
    obtain ⟨h1, ⟨params, body, scope, cN, b1, b2, b3⟩, h3⟩ := h
    exact ⟨h1, ⟨params, body, scope, cN, e _ _ b1 (fun z => by unfold LamO at z; cases z), e _ _ b2 (fun z => by unfold LamX.CodeO at z; cases z), b3⟩, AllC.imp e h3⟩
end
end VL
end

noncomputable section
namespace VL
open PySem PySem.Spec PyProof.Rows L2
open ModeZ

section
variable {X : Cx} {E : En} {kr : Kd} {fin : List Kd → Prop} {ks ks' : List Kd}
end
end VL
end

noncomputable section
namespace VL
open PySem PySem.Spec PyProof.Rows L2
open ModeZ

theorem XRep.same {cl : Cl} {Hs Hs' H H' : Hp} {x : Exc} {c : Value} {dd : Option Addr} (e : Same Hs Hs') (h : XRep cl Hs H x c dd) : XRep cl Hs' H' x c dd := by
  obtain ⟨a, e1, e2, e3⟩ := h
  refine ⟨a, e1, e2, ?_⟩
  cases q : x.at_ with
  | none => rw [q] at e3; exact e3
  | some d =>
    rw [q] at e3
    obtain ⟨p, v, f1, f2, f3⟩ := e3
    exact ⟨p, v, f1, e.at _ _ f2, Rep.same e _ _ f3⟩
end VL
end

noncomputable section
namespace VL
open PySem PySem.Spec PyProof.Rows L2
section
variable {md : Md}
section
variable {P : Program} {w : World} {K : PySem.W.Frag} {mg : Str → Option Value} {base : Heap} {cl : Cl} {x qual : Str} {st : Stmt} {fa : Addr} {fd : FuncData} {N ps : List Str} {k : Nat} {bs : List Bool} {kr : Kd} {k1 k2 ls : List Kd} {m : Sl → O}
end
section
variable {X : Cx} {E : En} {fin : List Kd → Prop} {kr : Kd} {ks ks' : List Kd} {is : List Nat} {kf : List Kd} {k n : Nat} {bs0 : Bool} {k1 k2 : List Kd} {bs : List Bool} {x : Str} {e : Expr} {es : List Expr} {f : List D → O} {t : Sl → R (List D)} {p pos : Pos} {kz : Kd}
end
end
open ModeZ
end VL
end

noncomputable section
namespace VL
open PySem PySem.Spec PyProof.Rows L2
variable {md : Md}

def zipD (ds es : List D) : List D := (ds.zip es).map fun p => .tup [p.1, p.2]
theorem zipD_get {ds es : List D} {i : Nat} {d : D} (h : (zipD ds es)[i]? = some d) : ∃ d0 e0, ds[i]? = some d0 ∧ es[i]? = some e0 ∧ d = .tup [d0, e0] := by
  unfold zipD at h
  rw [List.getElem?_map] at h
  cases q : (ds.zip es)[i]? with
  | none => rw [q] at h; cases h
  | some p =>
    rw [q] at h
    obtain ⟨h1, h2⟩ := List.getElem?_zip_eq_some.mp q
    cases h
    exact ⟨_, _, h1, h2, rfl⟩
theorem zipD_len (ds es : List D) : (zipD ds es).length = min ds.length es.length := by unfold zipD; rw [List.length_map, List.length_zip]
theorem ItOk.zip {K : PySem.W.Frag} {cl : Cl} {a b : Addr} {xs ys : List V} {ds es : List D} {Hs Bq : Hp} (rp : RepL cl Hs ds xs) (rp2 : RepL cl Hs es ys) (rt : ∀ Hs' H, Same Hs Hs' → Same Hs' H → Same Bq H → H a = some (.lst xs)) (rt2 : ∀ Hs' H, Same Hs Hs' → Same Hs' H → Same Bq H → H b = some (.lst ys)) (hz : xs.length ≤ szL) : ItOk cl (Itz K a b) (zipD ds es) Hs Bq where
  len := by rw [zipD_len, ← rp.length]; omega
  go := fun Hs' H e1 e2 e3 i hi => by
    rw [zipD_len] at hi
    obtain ⟨v, e, _⟩ := rp.get (d := ds[i]'(by omega)) (i := i) (by simp)
    obtain ⟨v2, e', _⟩ := rp2.get (d := es[i]'(by omega)) (i := i) (by simp)
    exact ⟨xs, ys, v, v2, SqL.of (rt Hs' H e1 e2 e3), SqL.of (rt2 Hs' H e1 e2 e3), e, e'⟩
  stop := fun Hs' H e1 e2 e3 => ⟨xs, ys, SqL.of (rt Hs' H e1 e2 e3), SqL.of (rt2 Hs' H e1 e2 e3), by rw [zipD_len, rp.length, rp2.length]; omega⟩
  yld := fun Hs' H e1 e2 e3 i d x H' hd y => by
    obtain ⟨T, v, v2, rfl, hT, rfl, y1, y2⟩ := y
    obtain ⟨d0, e0, h1, h2, rfl⟩ := zipD_get hd
    obtain ⟨u, eu, ru⟩ := rp.get h1
    obtain ⟨u2, eu2, ru2⟩ := rp2.get h2
    have q := y1 xs (SqL.of (rt Hs' _ e1 e2 e3))
    have q2 := y2 ys (SqL.of (rt2 Hs' _ e1 e2 e3))
    rw [eu] at q
    cases q
    rw [eu2] at q2
    cases q2
    have gs := e1.trans (Same.updNew (o := .tup [v, v2]) (e2.free hT))
    exact ⟨_, Grow.new e2 hT, .tup upd_same (.cons (Rep.same gs _ _ ru) (.cons (Rep.same gs _ _ ru2) .nil))⟩
section
variable {X : Cx} {E : En} {ks : List Kd} {mb : Bool} {e e2 : Expr} {g g2 : Sl → R D} {p pos : Pos}
end
end VL
end

noncomputable section
namespace VL
open PySem PySem.Spec PyProof.Rows L2
variable {md : Md}

section
variable {X : Cx} {E : En} {fin : List Kd → Prop} {kr : Kd} {ks ks' : List Kd} {i j : Nat} {n : Option Addr} {kk : List (Str × Kd)} {C f x : Str} {e : Expr} {g : Sl → O} {p0 p1 p2 p3 pos : Pos}
end

section
variable {X : Cx} {E : En} {fin : List Kd → Prop} {kr : Kd} {ks ks' ks1 : List Kd} {e a b : Expr} {rest : List Expr} {g ga gb : Sl → O} {gv : Sl → R D} {pos : Pos}
theorem PostX.bool {W : WX} {σ : L2.St} {Q1 Q : VK} {o : O} {kk : Bool → Sl → O} (P : PostX E ks1 .val fin W σ Q (onX o fun d r' => match d with
      | .bl b => kk b r'
      | _ => .stuck)) (h : ∀ b r' Hs' H', StRel E Hs' H' ks1 r' σ → PostX E ks1 .val fin W σ Q (kk b r') → Q1 (.bl b) H') : PostX E ks1 .val fin W σ Q1 o := by
  cases o with
  | stuck => exact P.elim
  | nx r => exact P.elim
  | exc x r => exact P
  | rt d r =>
    cases d <;> first | exact P.elim | skip
    rename_i b
    intro v Hs' H' S1
    obtain ⟨w, A, ew, o⟩ := S1.get (i := 0) rfl rfl
    cases ew
    cases o with
    | val rp =>
      cases rp
      exact h b r Hs' H' S1.pop P
end
end VL
end

noncomputable section
namespace VL
open PySem PySem.Spec PyProof.Rows L2
variable {md : Md}

section
variable {X : Cx} {E : En} {ks : List Kd} {a b : Expr} {ga gb : Sl → R D} {p p2 q pos : Pos}
end
end VL
end

noncomputable section
namespace VL
open PySem PySem.Spec PyProof.Rows L2
variable {md : Md}

def entS (e : DictEntry) : Option (Str × Str) := match e.key, e.val with
  | .str x _, .str y _ => some (x, y)
  | _, _ => none
def dicS (K : PySem.W.Frag) (a : Addr) : Option (List (Option (Str × Str))) := match K.lookup a with
  | some ⟨_, _, .dict es _, _⟩ => some (es.toList.map entS)
  | _ => none
theorem entS_find : ∀ {es : List DictEntry} {l : List (Str × Str)}, es.map entS = l.map some → ∀ z : Str, (es.any (·.refKey) = false) ∧ match l.lookup z with
    | none => es.find? (·.key.isStr z) = none
    | some y => ∃ e t, es.find? (·.key.isStr z) = some e ∧ e.val = .str y t
  | [], [], _, z => ⟨rfl, rfl⟩
  | [], _ :: _, h, _ => by cases h
  | _ :: _, [], h, _ => by cases h
  | e :: es, (x, y) :: l, h, z => by
    rw [List.map_cons, List.map_cons] at h
    obtain ⟨h1, h2⟩ := List.cons.inj h
    obtain ⟨i1, i2⟩ := entS_find h2 z
    unfold entS at h1
    split at h1
    · rename_i x0 t0 y0 u0 ek ev
      cases h1
      have er : e.refKey = false := by unfold DictEntry.refKey; rw [ek]
      have ei : e.key.isStr z = (x == z) := by rw [ek]; rfl
      refine ⟨by rw [List.any_cons, er, Bool.false_or]; exact i1, ?_⟩
      rw [List.lookup_cons, List.find?_cons, ei]
      by_cases c : x = z
      · have c1 : (z == x) = true := by simp [c]
        have c2 : (x == z) = true := by simp [c]
        rw [c1, c2]
        exact ⟨e, u0, rfl, ev⟩
      · have c1 : (z == x) = false := by simpa using fun w => c w.symm
        have c2 : (x == z) = false := by simpa using c
        rw [c1, c2]
        exact i2
    · cases h1
structure GTab (K : PySem.W.Frag) (w : World) (mg : Str → Option Value) (x : Str) (l : List (Str × Str)) : Prop where
  ex : ∃ a es n, mg x = some (.ref a) ∧ KDict K w a es n ∧ ∀ z, match l.lookup z with
    | none => PySem.W.nsIn K a z = some none
    | some y => ∃ t, PySem.W.nsIn K a z = some (some (.str y t))
theorem gtab_mk {K : PySem.W.Frag} {w : World} {mg : Str → Option Value} {x : Str} {a : Addr} {ks : List Str} {l : List (Str × Str)} (hm : mg x = some (.ref a)) (hk : He.dicW K a = some (He.keysIn w.params ks)) (hs : dicS K a = some (l.map some)) : GTab K w mg x l := by
  obtain ⟨es, n, D⟩ := He.dicW_ok hk
  refine ⟨a, es, n, hm, D, fun z => ?_⟩
  have D' := D.at_
  unfold dicS at hs
  rw [D'] at hs
  have e := Option.some.inj hs
  obtain ⟨i1, i2⟩ := entS_find e z
  unfold PySem.W.nsIn
  rw [D']
  cases q : l.lookup z with
  | none =>
    rw [q] at i2
    dsimp only at i2 ⊢
    rw [i2, i1]
    rfl
  | some y =>
    rw [q] at i2
    obtain ⟨en, t, f1, f2⟩ := i2
    refine ⟨t, ?_⟩
    dsimp only
    rw [f1]
    dsimp only
    rw [f2]
def dGout (l : List (Str × Str)) : D → R D
  | .str z => .ok (.bl (!(l.lookup z).isSome))
  | _ => .stuck
def dGix (l : List (Str × Str)) : D → R D
  | .str z => match l.lookup z with
    | some y => .ok (.str y)
    | none => .stuck
  | _ => .stuck
section
variable {X : Cx} {E : En} {ks : List Kd} {a : Expr} {ga : Sl → R D} {x : Str} {l : List (Str × Str)} {p pos : Pos}
theorem gin_read {f : Bool → Bool} {fd : D → R D} (hfd : ∀ d, fd d = match d with
      | .str z => .ok (.bl (f (l.lookup z).isSome))
      | _ => .stuck) {ad : Addr} (G : ∀ z, match l.lookup z with
    | none => PySem.W.nsIn X.K ad z = some none
    | some y => ∃ t, PySem.W.nsIn X.K ad z = some (some (.str y t))) (ha : SE X E ks .bor a ga) {Hs H : Hp} {r : Sl} {σ : L2.St} {W : WX} {Q : VK} (tk : Takes X W) (S : StRel E Hs H ks r σ)
    (P : Post E.cl .val Hs H Q (fun c dd H' => W c dd σ H') (gUn fd ga r)) : WEx X a σ H fun y H1 => ∃ (z : Str) (r0 : Option Value), y = .str z ∧ V.ref ad = .ref ad ∧ PySem.W.nsIn X.K ad z = some r0 ∧ Q (.bl (f r0.isSome)) H1 := by
  refine ha.run _ _ _ _ _ _ tk S (P.imp fun d1 v1 Hs1 H1 e1 g1 k1 P1 => ?_)
  rw [hfd] at P1
  cases d1 <;> first | exact P1.elim | skip
  rename_i z
  cases k1.rb.strInv
  have Gz := G z
  dsimp only at P1
  cases q : l.lookup z with
  | none =>
    rw [q] at Gz P1
    exact ⟨z, none, rfl, rfl, Gz, P1.finV g1.sub (.bl _)⟩
  | some y =>
    rw [q] at Gz P1
    obtain ⟨t, e⟩ := Gz
    exact ⟨z, some (.str y t), rfl, rfl, e, P1.finV g1.sub (.bl _)⟩
theorem se_gix (T : GTab X.K X.w X.mg x l) (ha : SE X E ks .bor a ga) (hq : NmOk x) (hg : Gl X x := by rfl) (hs : PlainIx a := by exact fun _ _ => rfl) : SE X E ks .val (.Subscript (.Name x p) a pos) (gUn (dGix l) ga) := by
  obtain ⟨ad, es, n, gm, D, G⟩ := T.ex
  refine ⟨fun Hs H r σ W Q tk S P => we_of (pe_ix ix_kdict (pe_glob (v := .ref ad) hg gm rfl hq.1) pe_we hs) ?_⟩
  refine ha.run _ _ _ _ _ _ tk S (P.imp fun d1 v1 Hs1 H1 e1 g1 k1 P1 => ?_)
  unfold dGix at P1
  cases d1 <;> first | exact P1.elim | skip
  rename_i z
  cases k1.rb.strInv
  have Gz := G z
  dsimp only at P1
  cases q : l.lookup z with
  | none => rw [q] at P1; exact P1.elim
  | some y =>
    rw [q] at Gz P1
    obtain ⟨t, e⟩ := Gz
    exact ⟨ad, z, .str y, rfl, rfl, ⟨es, n, _, D.at_, D.lit, e, ⟨t, rfl⟩⟩, P1.finV g1.sub (.str y)⟩
end
end VL
end

noncomputable section
namespace VL
open PySem PySem.Spec PyProof.Rows L2
variable {md : Md}

section
variable {X : Cx} {E : En} {ks : List Kd} {a b c : Expr} {ta : TA} {p p2 q pos : Pos} {t : Sl → R (List D)}
end
end VL
end

noncomputable section
namespace VL
open PySem PySem.Spec PyProof.Rows L2
variable {md : Md}

section
variable {X : Cx} {E : En} {ks : List Kd} {e : Expr} {g : Sl → R D} {x : Str} {j : Nat} {kp pos : Pos}
end
end VL
end

noncomputable section
namespace VL
open PySem PySem.Spec PyProof.Rows L2
variable {md : Md}

inductive Src where
  | l (a : Addr)
  | t (x : Str)
def Src.it (h : Heap) (i1 : Addr) (i : Nat) : Src → Prop
  | .l a => h.IsListIter i1 a i
  | .t x => ∃ tk, h.IsStrIter i1 (strIterType x) x tk i
def Src.val : Src → V
  | .l a => .ref a
  | .t x => .str x
def Src.has (K : PySem.W.Frag) (H : Hp) (i : Nat) (v : V) : Src → Prop
  | .l a => ∃ xs, SqL K H a xs ∧ xs[i]? = some v
  | .t x => ∃ c, x.cps[i]? = some c ∧ v = .str ⟨#[c]⟩
def Src.len (K : PySem.W.Frag) (H : Hp) (n : Nat) : Src → Prop
  | .l a => ∃ xs : List V, SqL K H a xs ∧ xs.length = n
  | .t x => x.cps.size = n
def Src.fp (i1 : Addr) : Src → List Addr
  | .l a => [i1, a]
  | .t _ => [i1]
def Src.off (i1 : Addr) : Src → Prop
  | .l a => a ≠ i1
  | .t _ => True
theorem draws_ex {prog : Program} {w : World} {A : Around} {it : Addr} {fp : List Addr} {n : Nat} {P : Nat → Value → Prop} {St : Tok → Nat → Heap → Prop} (D : ∀ t, Draws prog w A it fp n P (St t)) : Draws prog w A it fp n P (fun i h => ∃ t, St t i h) where
  live := fun i h ⟨t, st⟩ => (D t).live i h st
  frame := fun i h h' ⟨t, st⟩ k => ⟨t, (D t).frame i h h' st k⟩
  item := fun i s Q E hi ⟨t, st⟩ hQ => (D t).item i s Q E hi st fun x h' tk p st' sb => hQ x h' tk p ⟨t, st'⟩ sb
  done := fun s Q E ⟨t, st⟩ hE => (D t).done s Q E st hE
section
variable {X : Cx} {pins : List (Addr × Obj)} {σ : L2.St} {H : Hp} {s : Shared}
theorem src_draws {A : Around} (hh : A.handled = none) (I : Inv X pins σ H s) (i1 : Addr) {n : Nat} : ∀ (r : Src), r.len X.K H n → r.off i1 → ∃ (P : Nat → Value → Prop) (St : Nat → Heap → Prop), Draws X.prog X.w A i1 (r.fp i1) n P St ∧ (∀ i h, St i h → r.it h i1 i) ∧ (∀ i, r.it s.heap i1 i → St i s.heap) ∧ (∀ i u, P i u → ∃ v, r.has X.K H i v ∧ RelV v u)
  | .l a, ⟨xs, hq, hn⟩, ho => by
    obtain ⟨its, rv, p, _⟩ := I.list hq
    have hl := rv.length
    have D := Draws.list (prog := X.prog) (w := X.w) hh i1 a ho its.toArray
    have e : its.toArray.size = n := by rw [List.size_toArray]; omega
    rw [e] at D
    refine ⟨_, _, D, fun i h st => st.1, fun i st => ⟨st, p.isList⟩, fun i u hu => ?_⟩
    have hu' : its[i]? = some u := by simpa using hu
    have hi : i < xs.length := by have := (List.getElem?_eq_some_iff.mp hu').1; omega
    obtain ⟨u2, h2, r2⟩ := rv.get (List.getElem?_eq_getElem hi)
    rw [hu'] at h2
    cases h2
    exact ⟨_, ⟨xs, hq, List.getElem?_eq_getElem hi⟩, r2⟩
  | .t x, hn, _ => by
    have hn' : x.cps.size = n := hn
    subst hn'
    have D := draws_ex fun t => Draws.text (prog := X.prog) (w := X.w) hh i1 x t
    refine ⟨_, _, D, fun i h st => st, fun i st => st, fun i u hu => ?_⟩
    obtain ⟨c, t, e, rfl⟩ := hu
    exact ⟨_, ⟨c, e, rfl⟩, ⟨t, rfl⟩⟩
theorem src_one (I : Inv X pins σ H s) {i : Nat} : ∀ (r : Src) {v v' : V}, r.has X.K H i v → r.has X.K H i v' → v = v'
  | .l a, _, _, ⟨xs, h1, e1⟩, ⟨ys, h2, e2⟩ => by
    rw [I.list_inj h1 h2, e2] at e1
    exact (Option.some.inj e1).symm
  | .t x, _, _, ⟨c, e1, q1⟩, ⟨c', e2, q2⟩ => by
    rw [e1] at e2
    cases e2
    rw [q1, q2]
theorem src_begins (I : Inv X pins σ H s) {n : Nat} : ∀ (r : Src) {u : Value}, r.len X.K H n → RelV r.val u → ∃ (o : Obj) (Hh : Heap → Prop), Begins u o Hh ∧ Hh s.heap ∧ ∀ h j, h.get? j = some o → r.it h j 0
  | .l a, u, ⟨xs, hq, _⟩, ru => by
    obtain ⟨its, rv, p, _⟩ := I.list hq
    have e : u = .ref a := by cases ru; rfl
    subst e
    exact ⟨_, _, begins_list a its.toArray, p.isList, fun h j hj => ⟨_, hj, rfl, rfl⟩⟩
  | .t x, u, _, ru => by
    obtain ⟨t, rfl⟩ := (ru : ∃ t, u = .str x t)
    exact ⟨_, _, begins_text x t, trivial, fun h j hj => ⟨t, _, hj, rfl, rfl⟩⟩
theorem src_lt (I : Inv X pins σ H s) {n : Nat} : ∀ (r : Src), r.len X.K H n → ∀ a, r = .l a → a < s.heap.objs.size
  | .l a, ⟨xs, hq, _⟩, _, e => by
    cases e
    obtain ⟨its, rv, p, _⟩ := I.list hq
    exact p.lt
  | .t x, _, _, e => nomatch e
end
theorem src_at {i1 : Addr} {i : Nat} {h h' : Heap} : ∀ (r : Src), r.it h i1 i → (∀ o, h.get? i1 = some o → h'.get? i1 = some o) → r.it h' i1 i
  | .l _, st, k => st.at k
  | .t _, ⟨t, o, ho, q⟩, k => ⟨t, o, k o ho, q⟩
theorem src_obj {i1 : Addr} {i : Nat} {h : Heap} : ∀ (r : Src), r.it h i1 i → ∃ o, h.get? i1 = some o ∧ ∀ v, o.data ≠ .cell v
  | .l _, ⟨o, e, _, d⟩ => ⟨o, e, fun v q => by rw [d] at q; cases q⟩
  | .t _, ⟨_, o, e, _, d⟩ => ⟨o, e, fun v q => by rw [d] at q; cases q⟩
/-- two sources side by side -/
def ItzS (K : PySem.W.Frag) (r1 r2 : Src) : It :=
  ⟨fun i H => ∃ n1 n2, r1.len K H n1 ∧ r2.len K H n2 ∧ i < n1 ∧ i < n2,
    fun i H v H' => ∃ T x y, v = .ref T ∧ H T = none ∧ H' = upd H T (.tup [x, y]) ∧ (∀ x', r1.has K H i x' → x' = x) ∧ ∀ y', r2.has K H i y' → y' = y,
    fun i H => ∃ n1 n2, r1.len K H n1 ∧ r2.len K H n2 ∧ i = min n1 n2⟩
theorem turn_zipS {P : Program} {w : World} {K : PySem.W.Frag} {elts : List Expr} {kk : Nat} {tpos : Pos} {r1 r2 : Src} {z TI TO i1 i2 : Addr} (D : ZipSep2 z TI TO i1 i2 (r1.fp i1) (r2.fp i2)) (o1 : r1.off i1) (o2 : r2.off i2) :
    Turn P w K (.Tuple elts kk tpos) (ItzS K r1 r2) [z, TI, TO, i1, i2] z (fun i h => IsZip h z TI TO .none ∧ IsTupOf2 h TI (.ref i1) (.ref i2) ∧ (∃ x y, IsTupOf2 h TO x y) ∧ r1.it h i1 i ∧ r2.it h i2 i) where
  mem := by simp
  obj := fun i h st c hc => by
    obtain ⟨hz, hTI, ⟨x, y, hTO⟩, h1, h2⟩ := st
    have e' : c = z ∨ c = TI ∨ c = TO ∨ c = i1 ∨ c = i2 := by simpa using hc
    rcases e' with q | q | q | q | q
    · rw [q]; exact ⟨_, hz, fun v q => nomatch q⟩
    · rw [q]; exact ⟨_, hTI, fun v q => nomatch q⟩
    · rw [q]; exact ⟨_, hTO, fun v q => nomatch q⟩
    · rw [q]; exact src_obj r1 h1
    · rw [q]; exact src_obj r2 h2
  keep := fun i h h' st k => by
    obtain ⟨hz, hTI, ⟨x, y, hTO⟩, h1, h2⟩ := st
    exact ⟨k z (by simp) _ hz, k TI (by simp) _ hTI, ⟨x, y, k TO (by simp) _ hTO⟩, src_at r1 h1 fun o q => k i1 (by simp) o q, src_at r2 h2 fun o q => k i2 (by simp) o q⟩
  item := by
    intro X hP hw hK hc i pins s σ H E I hf st hg
    subst hP hw hK
    obtain ⟨hz, hTI, hTO, h1, h2⟩ := st
    obtain ⟨n1, n2, l1, l2, b1, b2⟩ := hg
    have hh : X.A.in1.handled = none := I.ok.hd hc
    obtain ⟨P1, St1, D1, t1, f1, v1⟩ := src_draws hh I i1 r1 l1 o1
    obtain ⟨P2, St2, D2, t2, f2, v2⟩ := src_draws hh I i2 r2 l2 o2
    have G := GoesN.zip2 (elts := elts) (x1 := kk) (pos := tpos) D D1 D2
    refine wpAny_mono (G.goes i s (fun v s2 => ∃ x H', Inv X pins σ H' s2 ∧ RelV x v ∧ (ItzS X.K r1 r2).yld i H x H' ∧ (IsZip s2.heap z TI TO .none ∧ IsTupOf2 s2.heap TI (.ref i1) (.ref i2) ∧ (∃ x y, IsTupOf2 s2.heap TO x y) ∧ r1.it s2.heap i1 (i + 1) ∧ r2.it s2.heap i2 (i + 1)) ∧ ∀ b ∈ [z, TI, TO, i1, i2], H' b = none) E (by omega) ⟨hz, hTI, hTO, f1 i h1, f2 i h2⟩ fun v h' tk hY st' hk htk => ?_) (fun r s1 h => h) fun _ _ e => e
    obtain ⟨T, u, u2, rfl, hT, p1, p2, hTu⟩ := hY
    obtain ⟨x, hx, rx⟩ := v1 i u p1
    obtain ⟨y, hy, ry⟩ := v2 i u2 p2
    obtain ⟨hz', hTI', hTO', st1, st2⟩ := st'
    have new : ObjOk X.prog X.w (upd H T (.tup [x, y])) h' T (.tup [x, y]) :=
      ⟨by show 2 ≤ sizeLine; decide, [u, u2], .cons rx (.cons ry .nil), hTu⟩
    have I1 : Inv X pins σ (upd H T (.tup [x, y])) { s with heap := h', toks := tk } :=
      I.turnedNew (t' := tk) (ch := [z, TI, TO, i1, i2]) (fun c o hb q => hk c o (fun m => hb (by
        have m' : c = z ∨ c = TO ∨ c = i1 ∨ c = i2 := by simpa using m
        rcases m' with e | e | e | e <;> simp [e])) q) hf hT new
    refine ⟨.ref T, _, I1, rfl, ⟨T, x, y, rfl, I.hok.fresh hT, rfl, fun x' hx' => src_one I r1 hx' hx, fun y' hy' => src_one I r2 hy' hy⟩, ⟨hz', hTI', hTO', t1 _ _ st1, t2 _ _ st2⟩, fun c hcm => ?_⟩
    have hlt : c < s.heap.objs.size := by
      have e' : c = z ∨ c = TI ∨ c = TO ∨ c = i1 ∨ c = i2 := by simpa using hcm
      rcases e' with q | q | q | q | q
      · rw [q]; exact Heap.lt_size hz
      · rw [q]; exact Heap.lt_size hTI
      · obtain ⟨_, _, hTO⟩ := hTO; rw [q]; exact Heap.lt_size hTO
      · obtain ⟨_, e1, _⟩ := src_obj r1 h1; rw [q]; exact Heap.lt_size e1
      · obtain ⟨_, e2, _⟩ := src_obj r2 h2; rw [q]; exact Heap.lt_size e2
    rw [upd_ne (Nat.ne_of_lt (Nat.lt_of_lt_of_le hlt hT))]
    exact (hf c hcm).1
  done := by
    intro X hP hw hK hc i pins s σ H E I hf st hg
    subst hP hw hK
    obtain ⟨hz, hTI, hTO, h1, h2⟩ := st
    obtain ⟨n1, n2, l1, l2, e⟩ := hg
    subst e
    have hh : X.A.in1.handled = none := I.ok.hd hc
    obtain ⟨P1, St1, D1, t1, f1, v1⟩ := src_draws hh I i1 r1 l1 o1
    obtain ⟨P2, St2, D2, t2, f2, v2⟩ := src_draws hh I i2 r2 l2 o2
    have G := GoesN.zip2 (elts := elts) (x1 := kk) (pos := tpos) D D1 D2
    refine G.stops s (fun s1 => Inv X pins σ H s1) E ⟨hz, hTI, hTO, f1 _ h1, f2 _ h2⟩ fun h' tk hk htk => ?_
    exact I.turnedL (t' := tk) (ch := [z, TI, TO, i1, i2]) (fun c o hb q => hk c o (fun m => hb (by
      have m' : c = z ∨ c = TO ∨ c = i1 ∨ c = i2 := by simpa using m
      rcases m' with e | e | e | e <;> simp [e])) q) hf
  self := fun A i s Q E st h => wpAny_pyIter_zip st.1 h
theorem sep_new {N : Nat} {r1 r2 : Src} (h1 : ∀ a, r1 = .l a → a < N) (h2 : ∀ a, r2 = .l a → a < N) : ZipSep2 (N + 4) (N + 2) (N + 3) N (N + 1) (r1.fp N) (r2.fp (N + 1)) := by
  cases r1 with
  | l a =>
    have ha := h1 a rfl
    cases r2 with
    | l b =>
      have hb := h2 b rfl
      constructor <;> simp [Src.fp]
      all_goals (intro e; subst e; first | exact absurd ha (Nat.not_lt.mpr (Nat.le_add_right _ _)) | exact absurd hb (Nat.not_lt.mpr (Nat.le_add_right _ _)) | exact absurd hb (Nat.lt_irrefl _) | exact absurd ha (Nat.lt_irrefl _))
    | t y =>
      constructor <;> simp [Src.fp]
      all_goals (intro e; subst e; first | exact absurd ha (Nat.not_lt.mpr (Nat.le_add_right _ _)) | exact absurd ha (Nat.lt_irrefl _))
  | t x =>
    cases r2 with
    | l b =>
      have hb := h2 b rfl
      constructor <;> simp [Src.fp]
      all_goals (intro e; subst e; first | exact absurd hb (Nat.not_lt.mpr (Nat.le_add_right _ _)) | exact absurd hb (Nat.lt_irrefl _))
    | t y => constructor <;> simp [Src.fp]
def iZipS (K : PySem.W.Frag) (ta : TA) : TI := fun σ H R => ta σ H fun vs H1 => ∃ r1 r2 n1 n2, vs = [Src.val r1, Src.val r2] ∧ r1.len K H1 n1 ∧ r2.len K H1 n2 ∧ R (ItzS K r1 r2) H1
theorem off_new {N : Nat} {r : Src} {j : Nat} (h : ∀ a, r = .l a → a < N) (hj : N ≤ j) : r.off j := by
  cases r with
  | l a =>
    have ha := h a rfl
    exact fun e => absurd (Nat.lt_of_lt_of_le ha hj) (by rw [e]; exact Nat.lt_irrefl _)
  | t x => trivial
theorem pi_zipS {X : Cx} {e e2 : Expr} {ta : TA} {p pos tpos : Pos} {elts : List Expr} {kk : Nat} (hg : Gl X "zip") (hm : X.mg "zip" = none) (ha : PA X [e, e2] ta)
    (hs : starEach [e, e2] X.env = (false, eval e X.env) :: starEach [e2] X.env := by rfl) (hpl : (backTo pos (starEach [e2] X.env)).any (·.1) = false := by rfl) :
    PI X (.Tuple elts kk tpos) (.Call (.Name "zip" p) [e, e2] [] pos) (iZipS X.K ta) := by
  refine ⟨fun pins s σ H R I h => ?_⟩
  refine Call_ (ld_blt I hg hm PyProof.Rows.boot_zip (PyProof.Rows.callWith_type1 (thn (ha.run pos pins s σ H _ I h) fun us s1 ⟨vs, H1, I1, rr, q1⟩ => ?_) hs hpl))
  obtain ⟨r1, r2, n1, n2, ex, l1, l2, q⟩ := q1
  subst ex
  cases rr with
  | cons ra rr =>
    cases rr with
    | cons rb rr =>
      cases rr
      obtain ⟨oa, Ha, Ba, ha1, ia⟩ := src_begins I1 r1 l1 ra
      obtain ⟨ob, Hb, Bb, hb1, ib⟩ := src_begins I1 r2 l2 rb
      refine zip_begins2 Ba Bb ha1 hb1 fun h' hz hTI hTO g1 g2 hsz hk => wpAny_pyIter_zip hz ?_
      have I2 : Inv X pins σ H1 { s1 with heap := h' } := I1.kept (t' := s1.toks) hk
      have lt1 := src_lt I1 r1 l1
      have lt2 := src_lt I1 r2 l2
      refine ⟨s1.heap.objs.size + 4, [s1.heap.objs.size + 4, s1.heap.objs.size + 2, s1.heap.objs.size + 3, s1.heap.objs.size, s1.heap.objs.size + 1], _, _, H1, rfl, I2, turn_zipS (sep_new lt1 lt2) (off_new lt1 (Nat.le_refl _)) (off_new lt2 (Nat.le_succ _)), ⟨hz, hTI, ⟨_, _, hTO⟩, ia _ _ g1, ib _ _ g2⟩, fun c hcm => ?_, q⟩
      have e' : c = s1.heap.objs.size + 4 ∨ c = s1.heap.objs.size + 2 ∨ c = s1.heap.objs.size + 3 ∨ c = s1.heap.objs.size ∨ c = s1.heap.objs.size + 1 := by simpa using hcm
      have hle : s1.heap.objs.size ≤ c := by
        rcases e' with z | z | z | z | z
        · rw [z]; exact Nat.le_add_right _ _
        · rw [z]; exact Nat.le_add_right _ _
        · rw [z]; exact Nat.le_add_right _ _
        · rw [z]; exact Nat.le_refl _
        · rw [z]; exact Nat.le_add_right _ _
      exact I1.fpOk hle (I1.hok.fresh hle)
def itemsD : D → Option (List D)
  | .lst ds => some ds
  | .str x => if x.cps.size ≤ szL then some (x.cps.toList.map fun c => .str ⟨#[c]⟩) else none
  | _ => none
def dZipS (d e : D) : R (List D) := match itemsD d, itemsD e with
  | some ds, some es => .ok (zipD ds es)
  | _, _ => .stuck
def gZipS (g g2 : Sl → R D) : Sl → R (List D) := fun r => do
  let d ← g r
  let e ← g2 r
  dZipS d e
/-- a source is at hand, and stays -/
structure SrcOk (K : PySem.W.Frag) (cl : Cl) (Hs Bq : Hp) (ds : List D) (r : Src) : Prop where
  sz : ds.length ≤ szL
  len : ∀ Hs' H, Same Hs Hs' → Same Hs' H → Same Bq H → r.len K H ds.length
  has : ∀ Hs' H, Same Hs Hs' → Same Hs' H → Same Bq H → ∀ i d, ds[i]? = some d → ∃ v, r.has K H i v ∧ Rep cl Hs' d v
theorem RQ.src {K : PySem.W.Frag} {cl : Cl} {Hs Bq H : Hp} {d : D} {v : V} {ds : List D} (q : RQ cl Hs Bq d v) (e : itemsD d = some ds) (s1 : Same Hs H) (s2 : Same Bq H) (hl : LenOk H) : ∃ r : Src, v = r.val ∧ SrcOk K cl Hs Bq ds r := by
  cases d <;> first | (cases e; done) | skip
  · dsimp only [itemsD] at e
    split at e
    · rename_i x hz
      cases e
      have ev : v = .str x := by
        cases q with
        | val r => cases r; rfl
      subst ev
      refine ⟨.t x, rfl, by simpa using hz, fun Hs' H _ _ _ => by show x.cps.size = _; simp, fun Hs' H _ _ _ i d hd => ?_⟩
      rw [List.getElem?_map] at hd
      cases hc : x.cps.toList[i]? with
      | none => rw [hc] at hd; cases hd
      | some c =>
        rw [hc] at hd
        cases hd
        exact ⟨.str ⟨#[c]⟩, ⟨c, by simpa using hc, rfl⟩, .str _⟩
    · cases e
  · cases e
    obtain ⟨a, xs, rfl, rp, rt⟩ := q.root (H := H) (Hs' := Hs)
    refine ⟨.l a, rfl, by rw [← rp.length]; exact hl _ _ (rt Hs H (Same.refl _) s1 s2), fun Hs' H e1 e2 e3 => ⟨xs, SqL.of (rt Hs' H e1 e2 e3), rp.length⟩, fun Hs' H e1 e2 e3 i d hd => ?_⟩
    obtain ⟨u, eu, ru⟩ := rp.get hd
    exact ⟨u, ⟨xs, SqL.of (rt Hs' H e1 e2 e3), eu⟩, Rep.same e1 _ _ ru⟩
theorem SrcOk.grow {K : PySem.W.Frag} {cl : Cl} {Hs Bq Hs2 Bq2 : Hp} {ds : List D} {r : Src} (S : SrcOk K cl Hs Bq ds r) (a : Same Hs Hs2) (b : Same Bq Bq2) : SrcOk K cl Hs2 Bq2 ds r :=
  ⟨S.sz, fun Hs' H e1 e2 e3 => S.len Hs' H (a.trans e1) e2 (b.trans e3), fun Hs' H e1 e2 e3 => S.has Hs' H (a.trans e1) e2 (b.trans e3)⟩
theorem ItOk.zipS {K : PySem.W.Frag} {cl : Cl} {ds es : List D} {r1 r2 : Src} {Hs Bq : Hp} (S1 : SrcOk K cl Hs Bq ds r1) (S2 : SrcOk K cl Hs Bq es r2) : ItOk cl (ItzS K r1 r2) (zipD ds es) Hs Bq where
  len := by rw [zipD_len]; have := S1.sz; omega
  go := fun Hs' H e1 e2 e3 i hi => by
    rw [zipD_len] at hi
    exact ⟨_, _, S1.len Hs' H e1 e2 e3, S2.len Hs' H e1 e2 e3, by omega, by omega⟩
  stop := fun Hs' H e1 e2 e3 => ⟨_, _, S1.len Hs' H e1 e2 e3, S2.len Hs' H e1 e2 e3, zipD_len _ _⟩
  yld := fun Hs' H e1 e2 e3 i d x H' hd y => by
    obtain ⟨T, v, v2, rfl, hT, rfl, y1, y2⟩ := y
    obtain ⟨d0, e0, h1, h2, rfl⟩ := zipD_get hd
    obtain ⟨u, eu, ru⟩ := S1.has Hs' H e1 e2 e3 i d0 h1
    obtain ⟨u2, eu2, ru2⟩ := S2.has Hs' H e1 e2 e3 i e0 h2
    have q := y1 u eu
    have q2 := y2 u2 eu2
    subst q q2
    have gs := Same.updNew (o := .tup [u, u2]) (e2.free hT)
    exact ⟨_, Grow.new e2 hT, .tup upd_same (.cons (Rep.same gs _ _ ru) (.cons (Rep.same gs _ _ ru2) .nil))⟩
section
variable {X : Cx} {E : En} {ks : List Kd} {mb : Bool} {e e2 : Expr} {g g2 : Sl → R D} {p pos : Pos}
theorem si_zipS {elts : List Expr} {kk : Nat} {tpos : Pos} (hm : X.mg "zip" = none) (h : SQ X E ks mb e g) (h2 : SQ X E ks mb e2 g2) (hg : Gl X "zip" := by rfl)
    (hs : starEach [e, e2] X.env = (false, eval e X.env) :: starEach [e2] X.env := by rfl) (hs2 : starEach [e2] X.env = (false, eval e2 X.env) :: starEach [] X.env := by rfl) (hpl : (backTo pos (starEach [e2] X.env)).any (·.1) = false := by rfl) : SI X E ks mb (.Tuple elts kk tpos) (.Call (.Name "zip" p) [e, e2] [] pos) (gZipS g g2) := by
  refine ⟨fun Hs H r σ W Q tk S P => ?_⟩
  have sb : Same E.b H := let ⟨_, s⟩ := S; s.eb
  unfold gZipS at P
  refine ⟨_, pi_zipS hg hm (pa_cons pe_we (pa_cons pe_we pa_nil hs2) hs) hs hpl, ?_⟩
  refine we_len (h.run _ _ _ _ _ _ tk S (PostQ.ofI (f := fun d => g2 r >>= dZipS d) P fun d v Hs1 H1 e1 g1 k1 P1 => ?_))
  intro hl
  refine we_len (h2.run _ _ _ _ _ _ tk (S.grow g1) (PostQ.ofI (f := dZipS d) P1 fun d2 v2 Hs2 H2 e2' g2' k2 P2 => ?_))
  intro hl2
  unfold dZipS at P2
  cases q1 : itemsD d with
  | none => rw [q1] at P2; exact P2.elim
  | some ds =>
  cases q2 : itemsD d2 with
  | none => rw [q1, q2] at P2; exact P2.elim
  | some es =>
  rw [q1, q2] at P2
  obtain ⟨r1, ev, S1⟩ := k1.src (K := X.K) q1 g1.sub (bq_same (sb.trans g1.h)) hl.1
  obtain ⟨r2, ev2, S2⟩ := k2.src (K := X.K) q2 g2'.sub (bq_same ((sb.trans g1.h).trans g2'.h)) hl2.1
  have bs : Same (bq E mb H1) (bq E mb H2) := by
    unfold bq
    split
    · exact Same.refl _
    · exact g2'.h
  have S1' := S1.grow g2'.s bs
  refine ⟨r1, r2, ds.length, es.length, by rw [ev, ev2], S1'.len Hs2 H2 (Same.refl _) g2'.sub (bq_same ((sb.trans g1.h).trans g2'.h)), S2.len Hs2 H2 (Same.refl _) g2'.sub (bq_same ((sb.trans g1.h).trans g2'.h)), P2 _ Hs2 H2 (Grow.refl g2'.sub) (ItOk.zipS S1' S2)⟩
end
end VL
end

noncomputable section
namespace VL
open PySem PySem.Spec PyProof.Rows L2
variable {md : Md}

/-- the pairs of a display, from the left, each key a written text -/
structure SDs [md : Md] (X : Cx) (E : En) (ks : List Kd) (keys : List (Option Expr)) (vals : List Expr) (xs : List Str) (t : Sl → R (List D)) : Prop where
  len : keys.length = vals.length ∧ keys.length = xs.length ∧ keys.all (·.isSome) = true
  run : ∀ pos, ∃ trs, PPs X pos keys vals trs ∧ ∀ (Hs H : Hp) (r : Sl) (σ : L2.St) (W : WX) (Q : List (V × V) → Hp → Prop), Takes X W → StRel E Hs H ks r σ →
    PostA E.cl (List.replicate xs.length true) Hs H (fun vs H' => Q ((xs.map V.str).zip vs) H') (fun c dd H' => W c dd σ H') (t r) → tPairs trs σ H Q
section
variable {X : Cx} {E : En} {ks : List Kd}
theorem sds_nil : SDs X E ks [] [] [] gNil := ⟨⟨rfl, rfl, rfl⟩, fun pos => ⟨[], pps_nil, fun Hs H r σ W Q tk S P => P [] Hs H (Grow.refl S.sub) .nil⟩⟩
theorem sds_cons {x : Str} {j : Nat} {kp : Pos} {e : Expr} {g : Sl → R D} {keys : List (Option Expr)} {vals : List Expr} {xs : List Str} {t : Sl → R (List D)} (he : SE X E ks .val e g) (ht : SDs X E ks keys vals xs t) :
    SDs X E ks (some (.Constant (.str x) j kp) :: keys) (e :: vals) (x :: xs) (gCons g t) := by
  obtain ⟨⟨l1, l2, l3⟩, hrun⟩ := ht
  refine ⟨⟨by simp [l1], by simp [l2], by simp [l3]⟩, fun pos => ?_⟩
  obtain ⟨trs, hp, hr⟩ := hrun pos
  refine ⟨_, pps_cons pe_str pe_we hp, fun Hs H r σ W Q tk S P => ?_⟩
  refine he.run _ _ _ _ _ _ tk S ?_
  unfold gCons at P
  cases q : g r with
  | stuck => rw [q] at P; exact P.elim
  | exc y => rw [q] at P; exact P
  | ok d =>
    rw [q] at P
    intro v Hs1 H1 g1 k1
    refine hr Hs1 H1 r σ W _ tk (S.grow g1) ?_
    have P1 : PostA E.cl (List.replicate (x :: xs).length true) Hs H (fun vs H' => Q (((x :: xs).map V.str).zip vs) H') (fun c dd H' => W c dd σ H') (t r >>= fun ds => R.ok (d :: ds)) := P
    cases q1 : t r with
    | stuck => rw [q1] at P1; exact P1.elim
    | exc y => rw [q1] at P1; exact fun c dd Hs2 H2 g2 xr => P1 c dd Hs2 H2 (g1.trans g2) xr
    | ok ds =>
      rw [q1] at P1
      intro vs Hs2 H2 g2 a
      exact P1 (v :: vs) Hs2 H2 (g1.trans g2) (by rw [List.length_cons, List.replicate_succ]; exact .val (Rep.same g2.s _ _ k1.rep) a)
end
def dispD (xs : List Str) (ds : List D) : List (Key × D) := (xs.map Sum.inr).zip ds
@[simp] def gDisp (xs : List Str) (t : Sl → R (List D)) : Sl → R D := fun r => do
  let ds ← t r
  .ok (.dct (dispD xs ds))
theorem repK_zip {cl : Cl} {H : Hp} : ∀ {xs : List Str} {ds : List D} {vs : List V}, RepL cl H ds vs → RepK cl H (dispD xs ds) ((xs.map (Sum.inr : Str → Key)).zip vs)
  | [], _, _, _ => .nil
  | _ :: _, [], _, r => by cases r; exact .nil
  | x :: xs, d :: ds, _, r => by
    cases r with
    | cons r1 r2 => exact .cons r1 (repK_zip r2)
theorem putK_new {k : Key} {v : V} {kvs : List (Key × V)} (h : k ∉ kvs.map (·.1)) : putK kvs k v = kvs ++ [(k, v)] := by
  unfold putK
  have z : (kvs.any fun kv => decide (kv.1 = k)) = false := by
    rw [List.any_eq_false]
    intro kv hkv e
    exact h (List.mem_map.mpr ⟨kv, hkv, by simpa using e⟩)
  rw [z]
  rfl
theorem mergeK_new : ∀ (more kvs : List (Key × V)), ((kvs ++ more).map (·.1)).Nodup → mergeK kvs more = kvs ++ more
  | [], kvs, _ => by simp [mergeK]
  | (k, v) :: more, kvs, h => by
    have h1 : k ∉ kvs.map (·.1) := fun z => by
      rw [List.map_append, List.nodup_append] at h
      exact h.2.2 k z k (by simp) rfl
    show mergeK (putK kvs k v) more = _
    rw [putK_new h1, mergeK_new more (kvs ++ [(k, v)]) (by simpa using h)]
    simp
theorem se_disp {X : Cx} {E : En} {ks : List Kd} {keys : List (Option Expr)} {vals : List Expr} {xs : List Str} {t : Sl → R (List D)} {pos : Pos} (h : SDs X E ks keys vals xs t) (hne : xs ≠ []) (h15 : xs.length ≤ 15) (hnd : xs.Nodup) : SE X E ks (.own none) (.Dict keys vals pos) (gDisp xs t) := by
  obtain ⟨⟨l1, l2, l3⟩, hrun⟩ := h
  obtain ⟨trs, hp, hr⟩ := hrun pos
  refine ⟨fun Hs H r σ W Q tk S P => ?_⟩
  refine we_of (pe_disp hp l3 l1 (fun z => hne (List.length_eq_zero_iff.mp (by rw [← l2, z]; rfl))) (by omega)) ?_
  intro p hp0
  have S1 := S.grow (Grow.fresh S.sub hp0 (o := .dK []))
  refine hr Hs _ r σ W _ tk S1 ?_
  have P' : Post E.cl (.own none) Hs H Q (fun c dd H' => W c dd σ H') (gDisp xs t r) := P
  clear P
  unfold gDisp at P'
  cases q : t r with
  | stuck => rw [q] at P'; exact P'.elim
  | exc y =>
    rw [q] at P'
    exact fun c dd Hs' H' gr xr => P' c dd Hs' H' ((Grow.fresh S.sub hp0).trans gr) xr
  | ok ds =>
    rw [q] at P'
    intro vs Hs1 H1 g1 a1
    have lv := a1.len
    rw [List.length_replicate] at lv
    have rp := a1.reps
    have hs0 : Hs p = none := S.sub.free hp0
    have h1p : H1 p = some (.dK []) := g1.h.at p _ upd_same
    have hs1 : Hs1 p = none := by
      cases z : Hs1 p with
      | none => rfl
      | some o =>
        rcases g1.n p (by rw [z]; simp) with w | w
        · exact absurd hs0 w
        · rw [upd_same] at w
          cases w
    have ek : ∀ (xs : List Str) (vs : List V), (xs.map V.str).zip vs = ((xs.map (Sum.inr : Str → Key)).zip vs).map fun kv => (kV kv.1, kv.2) := fun xs => by
      induction xs with
      | nil => intro vs; rfl
      | cons x xs ih =>
        intro vs
        cases vs with
        | nil => rfl
        | cons v vs =>
          show (V.str x, v) :: _ = (kV (Sum.inr x), v) :: _
          have i := ih vs
          exact congrArg _ i
    have em : mergeK [] ((xs.map (Sum.inr : Str → Key)).zip vs) = (xs.map (Sum.inr : Str → Key)).zip vs := mergeK_new _ [] (by
      rw [List.nil_append, List.map_fst_zip (by simp; omega)]
      exact hnd.map Sum.inr fun a b n e => n (Sum.inr.inj e))
    have G : Grow Hs H Hs1 (upd H1 p (.dK ((xs.map (Sum.inr : Str → Key)).zip vs))) := by
      refine ⟨g1.s, ⟨fun b o e nt => ?_⟩, fun a z => ?_, ⟨fun b o e nt => ?_⟩, fun B z => ?_⟩
      · have nb : b ≠ p := ne_of_none e hp0
        rw [upd_ne nb] at nt ⊢
        exact g1.h.k b o (by rw [upd_ne nb]; exact e) nt
      · rcases g1.n a z with w | w
        · exact .inl w
        · by_cases c : a = p
          · exact .inr (c ▸ hp0)
          · rw [upd_ne c] at w
            exact .inr w
      · have nb : b ≠ p := ne_of_none e hs1
        rw [upd_ne nb] at nt ⊢
        exact g1.sub.k b o e nt
      · have z2 := g1.t B (tab_upd hp0 B z)
        obtain ⟨ps, a1, a2, a3⟩ := z2
        have nB : B ≠ p := fun w => by rw [w, h1p] at a1; cases a1
        refine ⟨ps, by rw [upd_ne nB]; exact a1, a2, fun pos cv hcv => ?_⟩
        obtain ⟨c0, e1, e2⟩ := a3 pos cv hcv
        have nC : c0 ≠ p := fun w => by rw [w, h1p] at e2; unfold LamX.CodeO at e2; cases e2
        exact ⟨c0, e1, by rw [upd_ne nC]; exact e2⟩
    refine ⟨h1p, _, ek xs vs, ?_, ?_⟩
    · rw [List.length_zip, List.length_map]
      omega
    rw [em]
    refine P' _ _ _ G ⟨[p], .ownK ⟨hp0, fun _ z => nomatch z⟩ upd_same (repK_zip rp), by simp, fun a ha => ?_⟩
    have : a = p := by simpa using ha
    subst this
    exact ⟨hs1, hp0⟩

def dMulS (a b : D) : R D := match a, b with
  | .str x, .int k => if x.length = 1 ∧ 2 ≤ k ∧ k ≤ 100 then .ok (.str (Txt.mul x k)) else .stuck
  | _, _ => .stuck
theorem op_mulS {X : Cx} : OpR X (binaryOp .Mult) (fun x y H Q => ∃ a k, x = .str a ∧ y = .int k ∧ (a.length = 1 ∧ 2 ≤ k ∧ k ≤ 100) ∧ Q (.str (Txt.mul a k)) H) := by
  intro pins s σ H x y v u Q I rx ry h
  obtain ⟨a, k, rfl, rfl, ⟨h1, h2, h3⟩, q⟩ := h
  obtain ⟨t, rfl⟩ := rx
  obtain ⟨t', rfl⟩ := ry
  refine SB.mul ⟨?_, fun _ _ => ?_, fun _ _ => ?_⟩ fun t' k => ⟨.str _, H, I.tok k, ⟨t', rfl⟩, q⟩
  · have e1 : ¬ k < -(2 ^ 63) := by omega
    have e2 : ¬ k ≥ 2 ^ 63 := by omega
    simp; omega
  · rw [h1]
    have : (100 : Int) ≤ (2 ^ 63 - 1) / k := by
      rw [Int.le_ediv_iff_mul_le (by omega)]
      omega
    omega
  · rw [h1]
    unfold Builtin.Str.tooLong
    have : k.toNat ≤ 100 := by omega
    have z : (100 : Nat) ≤ sizeLine := by decide
    simp
    omega
theorem se_mulS {X : Cx} {E : En} {ks : List Kd} {a b : Expr} {ga gb : Sl → R D} {pos : Pos} (ha : SE X E ks .bor a ga) (hb : SE X E ks .bor b gb) : SE X E ks .val (.BinOp a .Mult b pos) (gBin dMulS ga gb) := by
  refine ⟨fun Hs H r σ W Q tk S P => ?_⟩
  refine we_of (pe_op op_mulS pe_we pe_we) ?_
  refine ha.run _ _ _ _ _ _ tk S (Post.imp (F := fun d => gb r >>= fun e => dMulS d e) P fun d1 v1 Hs1 H1 e1 g1 k1 P1 => ?_)
  refine hb.run _ _ _ _ _ _ tk (S.grow g1) (P1.imp fun d2 v2 Hs2 H2 e2 g2 k2 P2 => ?_)
  unfold dMulS at P2
  cases d1 <;> first | exact P2.elim | skip
  cases d2 <;> first | exact P2.elim | skip
  cases k1.rb.strInv
  cases k2.rb.intInv
  dsimp only at P2
  split at P2
  · rename_i h
    exact ⟨_, _, rfl, rfl, h, P2.finV g2.sub (.str _)⟩
  · exact P2.elim

section
variable {X : Cx} {E : En} {ks : List Kd} {a : Expr} {ga : Sl → R D} {x : Str} {l : List (Str × Str)} {p pos : Pos}
theorem st_gout (T : GTab X.K X.w X.mg x l) (ha : SE X E ks .bor a ga) (hq : NmOk x) (hg : Gl X x := by rfl) (hm : behindInMarks .NotIn (.Name x p) = false := by rfl) : ST X E ks (.Compare a [.NotIn] [.Name x p] pos) (gTest (gUn (dGout l) ga)) := by
  obtain ⟨ad, es, n, gm, D, G⟩ := T.ex
  exact ⟨fun Hs H r σ W Q tk S P => wt_of (pt_cmpR (op_notIn_kd D) pe_we (pe_glob (v := .ref ad) hg gm rfl hq.1) hm) (gin_read (f := not) (fd := dGout l) (fun d => by cases d <;> rfl) G ha tk S (PostT.ofB P))⟩
end
end VL
end

noncomputable section
namespace VL
open PySem PySem.Spec PyProof.Rows L2
variable {md : Md}

section
variable {X : Cx} {E : En} {ks : List Kd} {i : Nat} {n : Option Addr} {k : Kd} {x : Str} {b : Expr} {gb : Sl → R D} {p pos : Pos}
end
structure El where
  ds : List D
  n : Int
  k : Nat
  d : D
structure El.Ok (t : El) : Prop where
  ix : ixN t.ds.length t.n = some t.k
  at_ : t.ds[t.k]? = some t.d
  np : t.d.plain = false
inductive KL : List Kd → List Kd → Prop
  | nil : KL [] []
  | cons {n : Option Addr} {k : Kd} {kf ke : List Kd} : KL kf ke → KL (.lls n k :: kf) (k :: ke)
inductive EV (H : Hp) : List El → List V → List V → Prop
  | nil : EV H [] [] []
  | cons {t : El} {T : List El} {a : Addr} {xs : List V} {u : V} {uf ue : List V} : H a = some (.lst xs) → xs.length = t.ds.length → xs[t.k]? = some u → EV H T uf ue → EV H (t :: T) (.ref a :: uf) (u :: ue)
theorem EV.inj {H : Hp} : ∀ {T : List El} {uf ue ue' : List V}, EV H T uf ue → EV H T uf ue' → ue = ue'
  | _, _, _, _, .nil, .nil => rfl
  | _, _, _, _, .cons a1 _ a3 a4, .cons b1 _ b3 b4 => by
    rw [a1] at b1
    cases b1
    rw [a3] at b3
    cases b3
    rw [EV.inj a4 b4]
theorem EV.grow {Hs H Hs' H' : Hp} (g : Grow Hs H Hs' H') : ∀ {T : List El} {uf ue : List V}, EV H T uf ue → EV H' T uf ue
  | _, _, _, .nil => .nil
  | _, _, _, .cons a1 a2 a3 a4 => .cons (g.h.at _ _ a1 (by intro _ z; cases z)) a2 a3 (EV.grow g a4)
def putT (T : List El) (es : List D) : List D := List.zipWith (fun (t : El) (e : D) => D.lst (t.ds.set t.k e)) T es
section
variable {cl : Cl} {N : Addr → Prop} {B Hs H : Hp}
theorem RM.elts : ∀ {kf ke : List Kd} {T : List El} {uf : List V} {Af : List Addr}, KL kf ke → (∀ t ∈ T, t.Ok) → RM cl N B Hs H kf (T.map fun t => D.lst t.ds) uf Af →
    ∃ ue Ae Ar, Af.Perm (Ae ++ Ar) ∧ RM cl N B Hs H ke (T.map (·.d)) ue Ae ∧ EV H T uf ue ∧ (∀ a ∈ Ar, ∃ o, H a = some o ∧ NT o) ∧
      ∀ (Hs' H' : Hp), Same Hs Hs' → (∀ a ∈ Ar, H' a = H a) → ∀ (de : List D) (A2 : List Addr), RM cl N B Hs' H' ke de ue A2 → ∃ Aw, Aw.Perm (A2 ++ Ar) ∧ RM cl N B Hs' H' kf (putT T de) uf Aw
  | _, _, [], _, _, .nil, _, .nil => ⟨[], [], [], List.Perm.refl _, .nil, .nil, (fun a z => nomatch z), fun Hs' H' _ _ de A2 m => by
      cases m
      exact ⟨[], List.Perm.refl _, .nil⟩⟩
  | _, _, t :: T, _, _, .cons kl, ok, .cons o m => by
    rename_i n k kf ke v A uf As
    obtain ⟨ue, Ae, Ar, pm, me, ev, hr, back⟩ := RM.elts kl (fun t' h => ok t' (List.mem_cons_of_mem _ h)) m
    have tk := ok t List.mem_cons_self
    have o' : ORep cl N B Hs H (.lls n k) (.lst t.ds) v A := o
    cases o' with
    | llV h0 h1 => cases h0
    | lls h0 h1 h2 =>
      rename_i a xs As0
      obtain ⟨pre, A1, post, w, eA, ew, ow, re⟩ := OLs.pos t.k h2 tk.at_
      subst eA
      refine ⟨w :: ue, A1 ++ Ae, (a :: (pre ++ post)) ++ Ar, ?_, .cons ow me, .cons h1 (OLs.length h2) ew ev, fun b hb => ?_, fun Hs' H' s q de A2 m2 => ?_⟩
      · have p1 : (pre ++ (A1 ++ post)).Perm (A1 ++ (pre ++ post)) := by
          rw [← List.append_assoc, ← List.append_assoc]
          exact List.Perm.append_right _ List.perm_append_comm
        have p2 : (a :: (pre ++ (A1 ++ post))).Perm (A1 ++ (a :: (pre ++ post))) := (p1.cons a).trans List.perm_middle.symm
        refine (List.Perm.append p2 pm).trans ?_
        rw [List.append_assoc, List.append_assoc]
        refine List.Perm.append_left _ ?_
        rw [← List.append_assoc, ← List.append_assoc]
        exact List.Perm.append_right _ List.perm_append_comm
      · rcases List.mem_append.mp hb with z | z
        · rcases List.mem_cons.mp z with z | z
          · rw [z]; exact ⟨_, h1, (by intro _ z; cases z)⟩
          · refine OLs.here h2 b ?_
            rcases List.mem_append.mp z with z | z
            · exact List.mem_append_left _ z
            · exact List.mem_append_right _ (List.mem_append_right _ z)
        · exact hr b z
      · cases m2 with
        | cons o2 m3 =>
          rename_i d2 A20 As2 ds2
          obtain ⟨Aw, pw, mw⟩ := back Hs' H' s (fun b hb => q b (List.mem_append_right _ hb)) _ _ m3
          have qa : ∀ b ∈ pre ++ post, H' b = H b := fun b hb => q b (List.mem_append_left _ (List.mem_cons_of_mem _ hb))
          have ls := re Hs' H' s qa d2 w A20 o2
          have exs : xs.set t.k w = xs := by
            obtain ⟨hh, e2⟩ := List.getElem?_eq_some_iff.mp ew
            rw [← e2, List.set_getElem_self]
          rw [exs] at ls
          have ha : H' a = some (.lst xs) := by rw [q a (List.mem_append_left _ List.mem_cons_self), h1]
          refine ⟨_, ?_, .cons (.lls h0 ha ls) mw⟩
          have p1 : (pre ++ (A20 ++ post)).Perm (A20 ++ (pre ++ post)) := by
            rw [← List.append_assoc, ← List.append_assoc]
            exact List.Perm.append_right _ List.perm_append_comm
          have p2 : (a :: (pre ++ (A20 ++ post))).Perm (A20 ++ (a :: (pre ++ post))) := (p1.cons a).trans List.perm_middle.symm
          refine (List.Perm.append p2 pw).trans ?_
          rw [List.append_assoc, List.append_assoc]
          refine List.Perm.append_left _ ?_
          rw [← List.append_assoc, ← List.append_assoc]
          exact List.Perm.append_right _ List.perm_append_comm
end
section
variable {X : Cx} {E : En} {ks : List Kd} {is : List (Nat × Nat)} {bs : List Bool} {es : List Expr} {t : Sl → R (List D)} {i j : Nat} {x y : Str} {p p2 pos pos2 : Pos}
end
section
variable {X : Cx} {E : En} {fin : List Kd → Prop} {kr : Kd} {ks ks' : List Kd} {is : List (Nat × Nat)} {kf ke : List Kd} {k n : Nat} {bs0 : Bool} {k1 k2 : List Kd} {bs : List Bool} {x : Str} {e : Expr} {es : List Expr} {f : List D → O} {t : Sl → R (List D)} {p pos : Pos}
end
end VL
end

noncomputable section
namespace VL
open PySem PySem.Spec PyProof.Rows L2
variable {md : Md}

section
variable {E : En} {Hs H : Hp} {ks : List Kd} {r : Sl} {σ : L2.St}
end
section
variable {X : Cx} {E : En} {fin : List Kd → Prop} {kr : Kd} {ks ks' : List Kd} {i : Nat} {n : Option Addr} {k : Kd} {x : Str} {e b : Expr} {gb gv : Sl → R D} {g : Sl → O} {p1 p2 p pos : Pos}
end
section
variable {X : Cx} {E : En} {fin : List Kd → Prop} {kr : Kd} {ks : List Kd} {i : Nat} {n : Option Addr} {x m C : Str} {b : Expr} {gb : Sl → R D} {f : List D → O} {k : Nat} {k1 : List (Str × Kd)} {p1 p2 apos pos : Pos}
end
section
variable {P : Program} {w : World} {K : PySem.W.Frag} {mg : Str → Option Value} {base : Heap} {cl : Cl} {x qual : Str} {st : Stmt} {fa : Addr} {fd : FuncData} {N ps : List Str} {k : Nat} {bs : List Bool} {kr : Kd} {k1 k2 ls : List Kd} {m : Sl → O}
end
section
variable {X : Cx} {E : En} {fin : List Kd → Prop} {ks ks' : List Kd} {a b : Expr} {rest : List Expr} {ga gb : Sl → O} {ta : Sl → R Bool} {pos : Pos}
end
end VL
end

noncomputable section
namespace VL
open PySem PySem.Spec PyProof.Rows L2
variable {md : Md}

/-- a zip at turn i; S: the list that is made -/
structure ZSt (h : Heap) (z TI TO i1 i2 l1 l2 S : Addr) (xs ys : Array Value) (i : Nat) : Prop where
  ti : IsPair h TI (.ref i1) (.ref i2)
  h1 : h.IsListIter i1 l1 i
  h2 : h.IsListIter i2 l2 i
  x : h.IsList l1 xs
  y : h.IsList l2 ys
  hz : (IsZip h z TI TO .none ∧ ∃ a b, IsPair h TO a b) ∨ ∃ T f oT, IsZipHeld h z TI TO T f ∧ h.get? T = some oT ∧ T ≠ z ∧ T ≠ i1 ∧ T ≠ i2 ∧ T ≠ S
structure ZOff (S z TI TO i1 i2 l1 l2 : Addr) : Prop where
  z : S ≠ z
  ti : S ≠ TI
  to : S ≠ TO
  a : S ≠ i1
  b : S ≠ i2
  x : S ≠ l1
  y : S ≠ l2
theorem ZSt.keep {h h' : Heap} {z TI TO i1 i2 l1 l2 S : Addr} {xs ys : Array Value} {i : Nat} (st : ZSt h z TI TO i1 i2 l1 l2 S xs ys i) (O : ZOff S z TI TO i1 i2 l1 l2) (hk : ∀ b o, b ≠ S → h.get? b = some o → h'.get? b = some o) : ZSt h' z TI TO i1 i2 l1 l2 S xs ys i := by
  obtain ⟨hTI, h1, h2, hl1, hl2, hz⟩ := st
  refine ⟨hk _ _ (Ne.symm O.ti) hTI, h1.at fun o e => hk _ o (Ne.symm O.a) e, h2.at fun o e => hk _ o (Ne.symm O.b) e, hl1.at fun o e => hk _ o (Ne.symm O.x) e, hl2.at fun o e => hk _ o (Ne.symm O.y) e, ?_⟩
  rcases hz with ⟨hz, a, b, hTO⟩ | ⟨T, f, oT, hz, hT, r1, r2, r3, r4⟩
  · exact .inl ⟨hk _ _ (Ne.symm O.z) hz, a, b, hk _ _ (Ne.symm O.to) hTO⟩
  · exact .inr ⟨T, f, oT, hk _ _ (Ne.symm O.z) hz, hk _ _ r4 hT, r1, r2, r3, r4⟩
section
variable {prog : Program} {w : World} {A : Around} {E : Value → Shared → Prop} {s : Shared} {z TI TO i1 i2 l1 l2 S : Addr} {xs ys : Array Value} {i : Nat}
end
/-- the tuples made -/
structure ZG (xs ys : Array Value) (lo : Addr) (h : Heap) (as : List Addr) : Prop where
  rise : as.Pairwise (· < ·)
  above : ∀ a ∈ as, lo ≤ a
  pairs : ∀ (j : Nat) (a : Addr), as[j]? = some a → ∃ x y, xs[j]? = some x ∧ ys[j]? = some y ∧ h.get? a = some { cls := .type "tuple", data := .seq #[x, y] }
theorem ZG.there {xs ys : Array Value} {lo : Addr} {h : Heap} {as : List Addr} (g : ZG xs ys lo h as) {a : Addr} (ha : a ∈ as) : a < h.objs.size := by
  obtain ⟨j, hj⟩ := List.mem_iff_getElem?.mp ha
  obtain ⟨_, _, _, _, e⟩ := g.pairs j a hj
  exact Heap.lt_size e
section
variable {prog : Program} {w : World} {A : Around} {s : Shared} {R : Result → Shared → Prop} {z TI TO i1 i2 l1 l2 S : Addr} {xs ys : Array Value}
end
section
variable {prog : Program} {w : World} {A : Around} {E : Value → Shared → Prop} {s : Shared} {z TI TO i1 i2 l1 l2 : Addr} {xs ys : Array Value}
/-- a zip as it is made -/
structure Z0 (h : Heap) (z TI TO i1 i2 l1 l2 : Addr) (xs ys : Array Value) : Prop where
  z : IsZip h z TI TO .none
  ti : IsPair h TI (.ref i1) (.ref i2)
  to : ∃ a b, IsPair h TO a b
  h1 : h.IsListIter i1 l1 0
  h2 : h.IsListIter i2 l2 0
  x : h.IsList l1 xs
  y : h.IsList l2 ys
theorem Z0.keep {S : Addr} {h h' : Heap} (st : Z0 h z TI TO i1 i2 l1 l2 xs ys) (O : ZOff S z TI TO i1 i2 l1 l2) (hk : ∀ b o, b ≠ S → h.get? b = some o → h'.get? b = some o) : Z0 h' z TI TO i1 i2 l1 l2 xs ys :=
  ⟨hk _ _ (Ne.symm O.z) st.z, hk _ _ (Ne.symm O.ti) st.ti, let ⟨a, b, e⟩ := st.to; ⟨a, b, hk _ _ (Ne.symm O.to) e⟩, st.h1.at fun o e => hk _ o (Ne.symm O.a) e, st.h2.at fun o e => hk _ o (Ne.symm O.b) e, st.x.at fun o e => hk _ o (Ne.symm O.x) e, st.y.at fun o e => hk _ o (Ne.symm O.y) e⟩
theorem Z0.st {S : Addr} {h : Heap} (st : Z0 h z TI TO i1 i2 l1 l2 xs ys) : ZSt h z TI TO i1 i2 l1 l2 S xs ys 0 := ⟨st.ti, st.h1, st.h2, st.x, st.y, .inl ⟨st.z, st.to⟩⟩
end
theorem RepL.mk {cl : Cl} {H : Hp} : ∀ {ds : List D} {vs : List V}, ds.length = vs.length → (∀ (j : Nat) (d : D) (v : V), ds[j]? = some d → vs[j]? = some v → Rep cl H d v) → RepL cl H ds vs
  | [], [], _, _ => .nil
  | [], _ :: _, h, _ => by cases h
  | _ :: _, [], h, _ => by cases h
  | d :: ds, v :: vs, h, f => .cons (f 0 d v rfl rfl) (RepL.mk (Nat.succ.inj h) fun j d v e1 e2 => f (j + 1) d v (by simpa using e1) (by simpa using e2))
end VL
end

noncomputable section
namespace VL
open PySem PySem.Spec PyProof.Rows L2
variable {md : Md}

section
variable {X : Cx} {E : En} {ks : List Kd} {k : Kd} {e : Expr} {es : List Expr} {g : Sl → R D} {t : Sl → R (List D)} {pos : Pos}
end
section
variable {X : Cx} {E : En} {Hs H : Hp} {ks : List Kd} {r : Sl} {σ : L2.St} {i : Nat} {k : Kd}
end
section
variable {X : Cx} {E : En} {kr : Kd} {fin : List Kd → Prop} {ks : List Kd} {i j : Nat} {n m : Option Addr} {x y : Str} {e : Expr} {g : Sl → R D} {pos p1 p2 p3 p4 p5 p6 : Pos}
end
end VL
end

noncomputable section
namespace VL
open PySem PySem.Spec PyProof.Rows L2 PySem.Calls PySem.W

section
variable {prog : Program} {w : World} {A : Around} {E : Value → Shared → Prop} {s : Shared} {a kS : Addr} {b : Bool} {vs : List Value} {keys : Array Value} {e e1 : Nat} {P : PySem.Fin → Shared → Prop} {kz : List PyData} {h₀ : Heap}
end

section
variable {md : Md} {X : Cx}
end
end VL
end

noncomputable section
namespace VL
open PySem PySem.Spec PyProof.Rows L2
variable {md : Md}

def dUpper : D → R D
  | .str x => if 3 * x.length ≤ szL then .ok (.str (Txt.upper x)) else .stuck
  | _ => .stuck
def dRepl (y z : Str) : D → R D
  | .str x => if x.length + (x.length + 1) * z.length ≤ szL then .ok (.str (Txt.replace x y z)) else .stuck
  | _ => .stuck
section
variable {X : Cx} {E : En} {ks : List Kd} {e o : Expr} {g go : Sl → R D} {pos apos cpos : Pos}
theorem se_upper (ho : SE X E ks .bor o go) (hbase : attributeBase o "upper" X.env (eval o X.env) = eval o X.env := by rfl) (hline : (apos.endLine == pos.line) = true := by rfl) :
    SE X E ks .val (.Call (.Attribute o "upper" apos) [] [] pos) (gUn dUpper go) := by
  refine ⟨fun Hs H r σ W Q tk S P => ?_⟩
  refine we_of (pe_upper pe_we hbase hline) ?_
  refine ho.run _ _ _ _ _ _ tk S (P.imp fun d1 v1 Hs1 H1 e1 g1 k1 P1 => ?_)
  cases d1 <;> first | exact P1.elim | skip
  rename_i a
  cases k1.rb.strInv
  unfold dUpper at P1
  dsimp only at P1
  split at P1
  · rename_i h
    rw [szL_val] at h
    exact ⟨⟨a, rfl⟩, a, rfl, rfl, by omega, P1.finV g1.sub (.str _)⟩
  · exact P1.elim

def WAxT (X : Cx) (es : List Expr) : TA := fun σ H Q => ∀ (pos : Pos) (pins : List (Addr × Obj)) (s : Shared), 1 ≤ s.toks → Inv X pins σ H s → wpAny (model X.prog X.w) X.A (spliced (backTo pos (starEach es X.env))) (AP X pins σ Q) X.xe s
structure SAT [md : Md] (X : Cx) (E : En) (ks : List Kd) (bs : List Bool) (es : List Expr) (g : Sl → R (List D)) : Prop where
  run : ∀ (Hs H : Hp) (r : Sl) (σ : L2.St) (W : WX) (Q : List V → Hp → Prop), Takes X W → StRel E Hs H ks r σ → PostA E.cl bs Hs H Q (fun c dd H' => W c dd σ H') (g r) → WAxT X es σ H Q
variable {es : List Expr} {t : Sl → R (List D)} {bs : List Bool}
theorem sat_of (h : SA X E ks bs es t) : SAT X E ks bs es t := ⟨fun Hs H r σ W Q tk S P pos pins s _ I => h.run Hs H r σ W Q tk S P pos pins s I⟩
/-- the reading of an item and of the rest -/
theorem sat_read (he : SE X E ks .val e g) (ht : SAT X E ks bs es t) {Hs H : Hp} {r : Sl} {σ : L2.St} {W : WX} {Q : List V → Hp → Prop} (tk : Takes X W) (S : StRel E Hs H ks r σ)
    (P : PostA E.cl (true :: bs) Hs H Q (fun c dd H' => W c dd σ H') (gCons g t r)) : Post E.cl .val Hs H (fun x H1 => WAxT X es σ H1 fun xs H2 => Q (x :: xs) H2) (fun c dd H' => W c dd σ H') (g r) := by
  unfold gCons at P
  cases q : g r with
  | stuck => rw [q] at P; exact P
  | exc x => rw [q] at P; exact P
  | ok d =>
    rw [q] at P
    intro v Hs1 H1 g1 k1
    refine ht.run _ _ _ _ _ _ tk (S.grow g1) ?_
    have P1 := PostA.grow (r := t r >>= fun ds => R.ok (d :: ds)) P g1
    cases q2 : t r with
    | stuck => rw [q2] at P1; exact P1
    | exc x => rw [q2] at P1; exact P1
    | ok ds =>
      rw [q2] at P1
      exact fun vs Hs2 H2 g2 a2 => P1 _ Hs2 H2 g2 (.val (Rep.same g2.s _ _ k1.rep) a2)
theorem sat_v (he : SE X E ks .val e g) (ht : SAT X E ks bs es t) (hs : starEach (e :: es) X.env = (false, eval e X.env) :: starEach es X.env := by rfl) : SAT X E ks (true :: bs) (e :: es) (gCons g t) := by
  refine ⟨fun Hs H r σ W Q tk S P pos pins s h0 I => ?_⟩
  rw [hs]
  show wpAny _ _ (spliced ((false, eval e X.env) :: backTo pos (starEach es X.env))) _ _ s
  refine Calls.spliced_cons (wpAny_mono (PySem.wpAny_toks (he.run _ _ _ _ _ _ tk S (sat_read he ht tk S P) pins s I)) (fun u s1 q => ?_) fun _ _ z => z.2)
  obtain ⟨hk, x, H1, I1, r1, q1⟩ := q
  exact thn (q1 pos pins s1 (Nat.le_trans h0 hk) I1) fun us s2 ⟨xs, H2, I2, r2, q2⟩ => ⟨x :: xs, H2, I2, .cons r1 r2, q2⟩
/-- o.replace(y, z) behind a token -/
theorem sat_repl {y z : Str} {j k : Nat} {c0 c1 : Pos} (ho : SE X E ks .bor o go) (ht : SAT X E ks bs es t)
    (hs : starEach (.Call (.Attribute o "replace" apos) [.Constant (.str y) j c0, .Constant (.str z) k c1] [] pos :: es) X.env = (false, eval (.Call (.Attribute o "replace" apos) [.Constant (.str y) j c0, .Constant (.str z) k c1] [] pos) X.env) :: starEach es X.env := by rfl)
    (hyz : (y == z) = false := by decide)
    (hst : starEach [.Constant (.str y) j c0, .Constant (.str z) k c1] X.env = [(false, eval (.Constant (.str y) j c0) X.env), (false, eval (.Constant (.str z) k c1) X.env)] := by rfl)
    (hbase : attributeBase o "replace" X.env (eval o X.env) = eval o X.env := by rfl) (hline : (apos.endLine == pos.line) = true := by rfl) :
    SAT X E ks (true :: bs) (.Call (.Attribute o "replace" apos) [.Constant (.str y) j c0, .Constant (.str z) k c1] [] pos :: es) (gCons (gUn (dRepl y z) go) t) := by
  have rd : ∀ {Hs H : Hp} {r : Sl} {σ : L2.St} {W : WX} {Q : VK}, Takes X W → StRel E Hs H ks r σ → Post E.cl .val Hs H Q (fun c dd H' => W c dd σ H') (gUn (dRepl y z) go r) → CwR.tReplC (WEx X o) y z σ H Q := by
    intro Hs H r σ W Q tk S P
    refine ho.run _ _ _ _ _ _ tk S (P.imp fun d1 v1 Hs1 H1 e1 g1 k1 P1 => ?_)
    cases d1 <;> first | exact P1.elim | skip
    rename_i a
    cases k1.rb.strInv
    unfold dRepl at P1
    dsimp only at P1
    split at P1
    · rename_i h
      rw [szL_val] at h
      exact ⟨a, rfl, h, P1.finV g1.sub (.str _)⟩
    · exact P1.elim
  refine ⟨fun Hs H r σ W Q tk S P pos pins s h0 I => ?_⟩
  rw [hs]
  show wpAny _ _ (spliced ((false, _) :: backTo pos (starEach es X.env))) _ _ s
  have P2 : Post E.cl .val Hs H (fun x H1 => WAxT X es σ H1 fun xs H2 => Q (x :: xs) H2) (fun c dd H' => W c dd σ H') (gUn (dRepl y z) go r) := by
    unfold gCons at P
    cases q : gUn (dRepl y z) go r with
    | stuck => rw [q] at P; exact P
    | exc x => rw [q] at P; exact P
    | ok d =>
      rw [q] at P
      intro v Hs1 H1 g1 k1
      refine ht.run _ _ _ _ _ _ tk (S.grow g1) ?_
      have P1 := PostA.grow (r := t r >>= fun ds => R.ok (d :: ds)) P g1
      cases q2 : t r with
      | stuck => rw [q2] at P1; exact P1
      | exc x => rw [q2] at P1; exact P1
      | ok ds =>
        rw [q2] at P1
        exact fun vs Hs2 H2 g2 a2 => P1 _ Hs2 H2 g2 (.val (Rep.same g2.s _ _ k1.rep) a2)
  refine Calls.spliced_cons (wpAny_mono (PySem.wpAny_toks (CwR.pet_replC pe_we hyz hst hbase hline pins s σ H _ h0 I (rd tk S P2))) (fun u s1 q => ?_) fun _ _ z => z.2)
  obtain ⟨hk, x, H1, I1, r1, q1⟩ := q
  exact thn (q1 pos pins s1 (Nat.le_trans h0 hk) I1) fun us s2 ⟨xs, H2, I2, r2, q2⟩ => ⟨x :: xs, H2, I2, .cons r1 r2, q2⟩
/-- o + "..": a token is out behind it -/
theorem sa_tok {z : Str} {j : Nat} {c0 : Pos} (ho : SE X E ks .bor o go) (ht : SAT X E ks bs es t)
    (hs : starEach (.BinOp o .Add (.Constant (.str z) j c0) pos :: es) X.env = (false, eval (.BinOp o .Add (.Constant (.str z) j c0) pos) X.env) :: starEach es X.env := by rfl) :
    SA X E ks (true :: bs) (.BinOp o .Add (.Constant (.str z) j c0) pos :: es) (gCons (gBin dAdd go (gC (.str z))) t) := by
  have P2 : ∀ {Hs H : Hp} {r : Sl} {σ : L2.St} {W : WX} {Q : List V → Hp → Prop}, Takes X W → StRel E Hs H ks r σ → PostA E.cl (true :: bs) Hs H Q (fun c dd H' => W c dd σ H') (gCons (gBin dAdd go (gC (.str z))) t r) →
      Post E.cl .val Hs H (fun x H1 => WAxT X es σ H1 fun xs H2 => Q (x :: xs) H2) (fun c dd H' => W c dd σ H') (gBin dAdd go (gC (.str z)) r) := by
    intro Hs H r σ W Q tk S P
    unfold gCons at P
    cases q : gBin dAdd go (gC (.str z)) r with
    | stuck => rw [q] at P; exact P
    | exc x => rw [q] at P; exact P
    | ok d =>
      rw [q] at P
      intro v Hs1 H1 g1 k1
      refine ht.run _ _ _ _ _ _ tk (S.grow g1) ?_
      have P1 := PostA.grow (r := t r >>= fun ds => R.ok (d :: ds)) P g1
      cases q2 : t r with
      | stuck => rw [q2] at P1; exact P1
      | exc x => rw [q2] at P1; exact P1
      | ok ds =>
        rw [q2] at P1
        exact fun vs Hs2 H2 g2 a2 => P1 _ Hs2 H2 g2 (.val (Rep.same g2.s _ _ k1.rep) a2)
  refine ⟨fun Hs H r σ W Q tk S P pos pins s I => ?_⟩
  rw [hs]
  show wpAny _ _ (spliced ((false, _) :: backTo pos (starEach es X.env))) _ _ s
  have P3 : Post E.cl (.own none) Hs H (fun x H1 => WAxT X es σ H1 fun xs H2 => Q (x :: xs) H2) (fun c dd H' => W c dd σ H') (gBin dAdd go (gC (.str z)) r) := by
    have P4 := P2 tk S P
    cases q : gBin dAdd go (gC (.str z)) r with
    | stuck => rw [q] at P4; exact P4
    | exc x => rw [q] at P4; exact P4
    | ok d =>
      rw [q] at P4
      intro v Hs1 H1 g1 k1
      obtain ⟨Hs2, g2, rk2⟩ := k1.freeze (H0 := H) g1 rfl
      exact P4 v Hs2 H1 g2 rk2
  obtain ⟨rr, opr, opv⟩ : ∃ rr : R2, OpR X (binaryOp .Add) rr ∧ OpV X.K rr (.own none) dAdd := ⟨_, (op_add.or op_add_str).or (op_cat.or op_catT), opv_add⟩
  have B : WEx X o σ H fun x H1 => rr x (.str z) H1 fun x H1 => WAxT X es σ H1 fun xs H2 => Q (x :: xs) H2 :=
    ho.run _ _ _ _ _ _ tk S (P3.imp fun d1 v1 Hs1 H1 e1 g1 k1 P1 => opv _ _ _ _ (.str z) _ (.str z) _ _ g1.sub k1.rb (RB.val (Rep.str z)) P1 (nox_add _ _))
  refine Calls.spliced_cons ?_
  refine wpAny_mono (Q := fun u s1 => 1 ≤ s1.toks ∧ EP X pins σ (fun x H1 => WAxT X es σ H1 fun xs H2 => Q (x :: xs) H2) u s1) ?_ (fun u s1 q => ?_) fun _ _ z => z
  · refine wpAny_BinOp (thn (B pins s I) fun v s1 ⟨x, H1, I1, r1, q1⟩ => Calls.Constant_str ?_)
    exact wpAny_mono (PySem.wpAny_toks_of (n := 1) (by show 1 ≤ s1.toks + 1; omega) (opr pins _ σ H1 x (.str z) v _ _ (I1.tok _) r1 ⟨_, rfl⟩ q1)) (fun _ _ h => h) fun _ _ h => h.2
  · obtain ⟨h0, x, H1, I1, r1, q1⟩ := q
    exact thn (q1 pos pins s1 h0 I1) fun us s2 ⟨xs, H2, I2, r2, q2⟩ => ⟨x :: xs, H2, I2, .cons r1 r2, q2⟩
end
end VL
end

noncomputable section
namespace VL
open PySem PySem.Spec PyProof.Rows L2
variable {md : Md}

def dItemsK : D → R D
  | .dct kvs => .ok (.lst (kvs.map pairK))
  | _ => .stuck
def pairsK : List D → Option (List (Key × D))
  | [] => some []
  | .tup [k, d] :: r => (match keyOf k with
    | some k => (match pairsK r with
      | some t => some ((k, d) :: t)
      | none => none)
    | none => none)
  | _ :: _ => none
def dDictP : D → R D
  | .lst ds => (match pairsK ds with
    | some kvs => if (kvs.map (·.1)).Nodup ∧ kvs.length ≤ szL then .ok (.dct kvs) else .stuck
    | none => .stuck)
  | _ => .stuck
section
variable {X : Cx} {e : Expr} {te : TE} {p apos cpos pos : Pos}
def tListItemsR (te : TE) : TE := fun σ H Q => te σ H fun x H1 => ∃ (d : Addr) (kvs : List (Key × V)), x = .ref d ∧ Rd H1 d (.dK kvs) ∧
  ∀ (H' : Hp) (p : Addr) (ts : List Addr), (∀ b o, H1 b = some o → H' b = some o) → H1 p = none → (∀ t ∈ ts, H1 t = none) → p ∉ ts → H' p = some (.lst (ts.map V.ref)) → Paired (fun (t : Addr) (q : Key × V) => H' t = some (.tup [kV q.1, q.2])) ts kvs → Q (.ref p) H'
/-- list(e.items()), the dict tracked or frozen -/
theorem pe_listItemsR (hc : X.calm = true) (he : PE X e te) (hg : Gl X "list") (hm : X.mg "list" = none) (hv : bootBuiltins "list" = some (.type "list")) (hbase : attributeBase e "items" X.env (eval e X.env) = eval e X.env := by rfl) (hline : (apos.endLine == cpos.line) = true := by rfl)
    (hs : starEach [.Call (.Attribute e "items" apos) [] [] cpos] X.env = (false, eval (.Call (.Attribute e "items" apos) [] [] cpos) X.env) :: starEach [] X.env := by rfl) :
    PE X (.Call (.Name "list" p) [.Call (.Attribute e "items" apos) [] [] cpos] [] pos) (tListItemsR te) := by
  refine ⟨fun pins s σ H Q I hq => ?_⟩
  refine wpAny_Call_Name_kw (ld_blt I hg hm hv ?_)
  refine PyProof.Rows.callWith_type1 ?_ hs rfl
  rw [hs]
  show wpAny _ _ (spliced ((false, eval (.Call (.Attribute e "items" apos) [] [] cpos) X.env) :: backTo pos (starEach [] X.env))) _ _ s
  refine Calls.spliced_cons ?_
  refine wpAny_Call_method (T := "dict") (id := "dict.items") hbase rfl hline F.plainAttrs_dict F.slot_dict_items F.type_dict_items (thn (he.run pins s σ H _ I hq) fun u s1 ⟨x, H1, I1, rx, d, kvs, ex, hd, q⟩ => ?_)
  subst ex
  obtain rfl : u = Value.ref d := rx
  obtain ⟨hz, hs0, vs, kv, hdo⟩ := dk_rd I1.hok hd
  obtain ⟨ep, hat⟩ := hdo.dictAt
  have lk : kvs.length = vs.length := Paired.length kv
  have I2 : Inv X pins σ H1 { s1 with heap := s1.heap.push { cls := .type "dict_items", data := .fields #[.ref d] } } := I1.kept (t' := s1.toks) fun b ob q => Heap.get?_push_of_some _ q
  refine ⟨hdo.typeIs, hdo.mapOf.noDict, ?_⟩
  show wpAny _ _ (callWith cpos (.builtin "dict.items") [.ref d] [] []) _ X.xe s1
  refine method_meetsIn F.slot_dict_items F.entry_dict_items rfl (PySem.evalArgs_none ⟨rfl, hdo.typeIs, F.args_dict_items_1 _, _, meets_dict_items (mixKind X.prog X.w) d hs0, ⟨vs, hdo⟩, ?_⟩)
  refine Calls.spliced_nil ?_
  refine PySem.W.kdx_call (knd := mixKind X.prog X.w) (kvs := vs) (ep := ep) (I1.ok.hd hc) ⟨_, Heap.get?_push_size _ rfl, rfl, rfl⟩ (hat.push _) (by omega) fun h' tk acc c as hk hS hl hG hacc => ?_
  obtain ⟨H', k1, k2, k3, k4, k5, k6, J⟩ := LiI.items_laid (tk := tk) I2 hz kv hk hS hl hG hacc
  exact ⟨.ref _, H', J, rfl, q H' _ as k1 k2 k3 k4 k5 k6⟩
end
/-- new tuples beside a new list -/
theorem grow_tups {Hs H H' : Hp} {p : Addr} {ts : List Addr} (g : Same Hs H) (kp : ∀ b o, H b = some o → H' b = some o) (nt : ∀ t ∈ ts, H t = none) : Grow Hs H (fun b => if b ∈ ts then H' b else Hs b) H' := by
  have fr : ∀ t ∈ ts, Hs t = none := fun t ht => g.free (nt t ht)
  have s1 : Same Hs (fun b => if b ∈ ts then H' b else Hs b) := ⟨fun b o q _ => by
    have nb : b ∉ ts := fun z => by rw [fr b z] at q; cases q
    show (if b ∈ ts then H' b else Hs b) = some o
    rw [if_neg nb]
    exact q⟩
  exact ⟨s1, ⟨fun b o q _ => kp b o q⟩, fun b z => by
    by_cases hb : b ∈ ts
    · exact .inr (nt b hb)
    · left
      have z : (if b ∈ ts then H' b else Hs b) ≠ none := z
      rw [if_neg hb] at z
      exact z, ⟨fun b o q nt' => by
      have q : (if b ∈ ts then H' b else Hs b) = some o := q
      by_cases hb : b ∈ ts
      · rw [if_pos hb] at q
        exact q
      · rw [if_neg hb] at q
        refine kp b o (g.k b o q ?_)
        rcases nt' with w | w
        · exact .inl w
        · right
          cases w2 : H b with
          | none => rfl
          | some o2 => rw [kp b o2 w2] at w; cases w⟩, fun P z => z.ext fun b u q => kp b u q⟩
section
variable {X : Cx} {E : En} {ks : List Kd} {o : Expr} {go : Sl → R D} {p apos cpos pos : Pos}
theorem se_listItems (B : Bl X.mg) (ho : SE X E ks .bor o go) (hc : X.calm = true := by rfl) (hg : Gl X "list" := by rfl) (hbase : attributeBase o "items" X.env (eval o X.env) = eval o X.env := by rfl) (hline : (apos.endLine == cpos.line) = true := by rfl)
    (hs : starEach [.Call (.Attribute o "items" apos) [] [] cpos] X.env = (false, eval (.Call (.Attribute o "items" apos) [] [] cpos) X.env) :: starEach [] X.env := by rfl) :
    SE X E ks (.own none) (.Call (.Name "list" p) [.Call (.Attribute o "items" apos) [] [] cpos] [] pos) (gUn dItemsK go) := by
  refine ⟨fun Hs H r σ W Q tk S P => ?_⟩
  refine we_of (pe_listItemsR hc pe_we hg B.list bb_list hbase hline hs) ?_
  refine ho.run _ _ _ _ _ _ tk S (P.imp fun d1 v1 Hs1 H1 e1 g1 k1 P1 => ?_)
  cases d1 <;> first | exact P1.elim | skip
  rename_i kvs
  obtain ⟨a, xs, rfl, h1, r1⟩ := k1.rb.dctInv g1.sub
  refine ⟨a, xs, rfl, h1, fun H' q ts kp np nt pn hl hat => ?_⟩
  have P2 : Post _ _ _ _ _ _ (R.ok (D.lst (kvs.map pairK))) := P1
  have lt := Paired.length hat
  refine P2 (.ref q) _ H' (grow_tups (p := q) g1.sub kp nt) ⟨[q], .ownL ⟨np, fun _ z => by cases z⟩ hl (RepL.mk ?_ fun j d v e1 e2 => ?_), List.nodup_cons.mpr ⟨fun z => (nomatch z), List.nodup_nil⟩, fun b hb => ?_⟩
  · rw [List.length_map, List.length_map, lt, r1.len]
  · rw [List.getElem?_map] at e1 e2
    cases qk : kvs[j]? with
    | none => rw [qk] at e1; cases e1
    | some kd =>
      rw [qk] at e1
      cases e1
      cases qt : ts[j]? with
      | none => rw [qt] at e2; cases e2
      | some t =>
        rw [qt] at e2
        cases e2
        obtain ⟨y, f1, f2⟩ := LiI.paired_get hat qt
        obtain ⟨v, f3, f4⟩ := r1.get qk
        rw [f1] at f3
        cases f3
        have mt : t ∈ ts := List.mem_of_getElem? qt
        have s1 := (grow_tups (p := q) g1.sub kp nt).s
        refine .tup (xs := [kV kd.1, v]) ?_ (.cons (keyRep _) (.cons (Rep.same s1 _ _ f4) .nil))
        show (if t ∈ ts then H' t else Hs1 t) = _
        rw [if_pos mt]
        exact f2
  · have : b = q := by simpa using hb
    subst this
    refine ⟨?_, np⟩
    show (if b ∈ ts then H' b else Hs1 b) = none
    rw [if_neg pn]
    exact g1.sub.free np
end
/-- dict(xs): pairs, their keys unlike -/
theorem call_dictP {X : Cx} (hc : X.calm = true) : CallR X (.type "dict") (fun xs H Q => ∃ (a : Addr) (ts : List Addr) (kvs : List (Key × V)), xs = [.ref a] ∧ SqL X.K H a (ts.map V.ref) ∧ ts.length = kvs.length ∧ (∀ (j : Nat) (t : Addr) (q : Key × V), ts[j]? = some t → kvs[j]? = some q → H t = some (.tup [kV q.1, q.2])) ∧
    (kvs.map (·.1)).Nodup ∧ kvs.length ≤ sizeLine ∧ ∀ p, H p = none → Q (.ref p) (upd H p (.dK kvs))) := by
  intro pins s σ H xs us Q I r q
  obtain ⟨a, ts, kvs, ex, hd, hl, hp, hnd, hz, q⟩ := q
  subst ex
  obtain ⟨u, eu, rx⟩ := vals1 r
  subst eu
  cases rx
  obtain ⟨its, rv, pl, _⟩ := I.list hd
  have li : its = ts.map Value.ref := by
    clear pl hp hd hl
    rename_i zz
    clear zz
    induction ts generalizing its with
    | nil => cases rv; rfl
    | cons t ts ih =>
      cases rv with
      | cons r1 r2 =>
        cases r1
        rw [List.map_cons, ih _ r2]
  -- the values of each pair
  have ob : ∀ j (hj : j < kvs.length), ∃ k v : Value, RelV (kV kvs[j].1) k ∧ RelV kvs[j].2 v ∧ PySem.PairAt s.heap (ts.getD j 0) k v := fun j hj => by
    have hj2 : j < ts.length := by omega
    have h1 := hp j ts[j] kvs[j] (List.getElem?_eq_getElem hj2) (List.getElem?_eq_getElem hj)
    obtain ⟨_, its2, r2, t2⟩ := I.hok _ _ h1
    cases r2 with
    | cons a1 a2 =>
      cases a2 with
      | cons a3 a4 =>
        cases a4
        refine ⟨_, _, a1, a3, .inl ?_⟩
        rw [List.getD_eq_getElem?_getD, List.getElem?_eq_getElem hj2]
        exact t2
  let ps : List (Value × Value) := (List.finRange kvs.length).map fun j => ((ob j.1 j.2).choose, (ob j.1 j.2).choose_spec.choose)
  have pl0 : ps.length = kvs.length := by simp [ps]
  have pg : ∀ j (hj : j < kvs.length), ∃ k v : Value, ps[j]? = some (k, v) ∧ RelV (kV kvs[j].1) k ∧ RelV kvs[j].2 v ∧ PySem.PairAt s.heap (ts.getD j 0) k v := fun j hj => by
    refine ⟨_, _, ?_, (ob j hj).choose_spec.choose_spec.1, (ob j hj).choose_spec.choose_spec.2.1, (ob j hj).choose_spec.choose_spec.2.2⟩
    simp [ps, List.getElem?_map, List.getElem?_eq_getElem (show j < (List.finRange kvs.length).length by simpa using hj)]
  let vs : List (Key × Value) := (kvs.zip ps).map fun p => (p.1.1, p.2.2)
  have vl : vs.length = kvs.length := by simp [vs, List.length_zip, pl0]
  have vg : ∀ j (hj : j < kvs.length), ∃ k v : Value, ps[j]? = some (k, v) ∧ vs[j]? = some (kvs[j].1, v) ∧ RelV (kV kvs[j].1) k ∧ RelV kvs[j].2 v ∧ PySem.PairAt s.heap (ts.getD j 0) k v := fun j hj => by
    obtain ⟨k, v, e1, e2, e3, e4⟩ := pg j hj
    refine ⟨k, v, e1, ?_, e2, e3, e4⟩
    have z : (kvs.zip ps)[j]? = some (kvs[j], (k, v)) := List.getElem?_zip_eq_some.mpr ⟨List.getElem?_eq_getElem hj, e1⟩
    simp [vs, List.getElem?_map, z]
  have kv : KV kvs vs := by
    have aux : ∀ (as : List (Key × V)) (bs : List (Key × Value)), as.length = bs.length → (∀ j (hj : j < as.length), ∃ b, bs[j]? = some b ∧ as[j].1 = b.1 ∧ RelV as[j].2 b.2) → KV as bs := by
      intro as
      induction as with
      | nil => intro bs h _; cases bs with
        | nil => exact .nil
        | cons => cases h
      | cons a as ih => intro bs h f; cases bs with
        | nil => cases h
        | cons b bs =>
          obtain ⟨b0, h1, h2, h3⟩ := f 0 (by simp)
          cases h1
          refine .cons ⟨h2, h3⟩ (ih bs (Nat.succ.inj h) fun j hj => ?_)
          have := f (j + 1) (by simpa using hj)
          simpa using this
    refine aux _ _ vl.symm fun j hj => ?_
    obtain ⟨k, v, _, e2, _, e4, _⟩ := vg j hj
    exact ⟨_, e2, rfl, e4⟩
  have hk : vs.map (·.1) = kvs.map (·.1) := by
    apply List.ext_getElem?
    intro j
    by_cases hj : j < kvs.length
    · obtain ⟨k, v, _, e2, _⟩ := vg j hj
      simp [e2, List.getElem?_eq_getElem hj]
    · rw [List.getElem?_eq_none (by simp [vl]; omega), List.getElem?_eq_none (by simp; omega)]
  have hm : (s.heap.objs.size == sysModules) = false := beq_eq_false_iff_ne.mpr (Nat.ne_of_gt I.big)
  refine call_dict_pairs (knd := mixKind X.prog X.w) (kvs := vs) (PairArg.list a its.toArray (fun j => ts.getD j 0) ps) (I.ok.hd hc) ⟨let ⟨o, n, h1, h2, h3, h4⟩ := pl; ⟨o, n, h1, h2, h3, h4⟩, ?_, fun j k v e => ?_⟩ ⟨by rw [vl, pl0], fun j k v e => ?_⟩ (by rw [pl0]; exact hz) fun h' tk hD hkeep => ?_
  · rw [li]
    simp [pl0, hl]
  · have hj : j < kvs.length := by
      have := (List.getElem?_eq_some_iff.mp e).1
      omega
    obtain ⟨k2, v2, e1, _, _, _, e5⟩ := vg j hj
    rw [e] at e1
    cases e1
    refine ⟨?_, e5⟩
    rw [li]
    have hj2 : j < ts.length := by omega
    simp [List.getElem?_eq_getElem hj2, List.getD_eq_getElem?_getD]
  · have hj : j < kvs.length := by
      have := (List.getElem?_eq_some_iff.mp e).1
      omega
    obtain ⟨k2, v2, e1, e2, e3, _, _⟩ := vg j hj
    rw [show ps[j]? = some (k, v) from e] at e1
    cases e1
    exact ⟨_, e2, kV_is e3⟩
  · have mg : merged [] vs = vs := by
      have := merged_append_of_fresh [] vs (by rw [List.nil_append, hk]; exact hnd)
      simpa using this
    rw [mg] at hD
    exact ⟨.ref s.heap.objs.size, upd H s.heap.objs.size (.dK kvs), I.laid (t' := tk) (fun b u e => hkeep b u (fun z => nomatch z) e) (Nat.le_refl _)
      (show ObjOk X.prog X.w _ _ _ (.dK kvs) from ⟨hz, hm, vs, kv, hD⟩), rfl, q _ (I.hok.fresh (Nat.le_refl _))⟩
theorem pairsK_rep {cl : Cl} {H : Hp} : ∀ {ds : List D} {xs : List V} {kvs : List (Key × D)}, RepL cl H ds xs → pairsK ds = some kvs → ∃ (ts : List Addr) (ys : List (Key × V)), xs = ts.map V.ref ∧ ts.length = ys.length ∧ (∀ (j : Nat) (t : Addr) (q : Key × V), ts[j]? = some t → ys[j]? = some q → H t = some (.tup [kV q.1, q.2])) ∧ RepK cl H kvs ys
  | [], _, _, h, e => by
    cases h
    cases e
    exact ⟨[], [], rfl, rfl, fun j t q a => by simp at a, .nil⟩
  | d :: ds, _, kvs, h, e => by
    cases h with
    | @cons _ _ v vs h1 h2 =>
      cases d with
      | tup l =>
        match l, h1, e with
        | [], _, e => simp [pairsK] at e
        | [_], _, e => simp [pairsK] at e
        | _ :: _ :: _ :: _, _, e => simp [pairsK] at e
        | [k, d], h1, e =>
          unfold pairsK at e
          cases qk : keyOf k with
          | none => rw [qk] at e; cases e
          | some kk =>
            rw [qk] at e
            cases qt : pairsK ds with
            | none => rw [qt] at e; cases e
            | some t =>
              rw [qt] at e
              cases e
              obtain ⟨ts, ys, f1, f2, f3, f4⟩ := pairsK_rep h2 qt
              cases h1 with
              | @tup a _ zs g1 g2 =>
                cases g2 with
                | @cons _ _ v1 _ r1 g2 =>
                  cases g2 with
                  | @cons _ _ v2 _ r2 g2 =>
                    cases g2
                    have ek : v1 = kV kk := by
                      cases k <;> first | (cases qk; done) | skip
                      · cases qk; cases r1; rfl
                      · cases qk; cases r1; rfl
                    subst ek
                    refine ⟨a :: ts, (kk, v2) :: ys, by rw [List.map_cons, f1], by simp [f2], fun j t q e1 e2 => ?_, .cons r2 f4⟩
                    cases j with
                    | zero =>
                      cases e1
                      cases e2
                      exact g1
                    | succ j => exact f3 j t q (by simpa using e1) (by simpa using e2)
      | _ => simp [pairsK] at e
section
variable {X : Cx} {E : En} {ks : List Kd} {e : Expr} {es : List Expr} {t : Sl → R (List D)} {p pos : Pos}
def fDictP : List D → R D
  | [d] => dDictP d
  | _ => .stuck
theorem RepK.keysV {cl : Cl} {H : Hp} : ∀ {ds : List (Key × D)} {xs : List (Key × V)}, RepK cl H ds xs → xs.map (·.1) = ds.map (·.1)
  | [], _, h => by cases h; rfl
  | _ :: _, _, h => by
    cases h with
    | cons _ h2 => rw [List.map_cons, List.map_cons, RepK.keysV h2]
theorem callv_dictP {X : Cx} : CallV X.K (fun xs H Q => ∃ (a : Addr) (ts : List Addr) (kvs : List (Key × V)), xs = [.ref a] ∧ SqL X.K H a (ts.map V.ref) ∧ ts.length = kvs.length ∧ (∀ (j : Nat) (t : Addr) (q : Key × V), ts[j]? = some t → kvs[j]? = some q → H t = some (.tup [kV q.1, q.2])) ∧
    (kvs.map (·.1)).Nodup ∧ kvs.length ≤ sizeLine ∧ ∀ p, H p = none → Q (.ref p) (upd H p (.dK kvs))) (.own none) [false] fDictP := by
  intro cl Hs H ds vs Q W e a P
  obtain ⟨d, v, rfl, rfl, r⟩ := a.one
  unfold fDictP dDictP at P
  cases d <;> first | exact P.elim | skip
  rename_i ds
  dsimp only at P
  obtain ⟨p, xs, rfl, h1, r1⟩ := r.lstInv e
  cases qp : pairsK ds with
  | none => rw [qp] at P; exact P.elim
  | some kvs =>
    rw [qp] at P
    dsimp only at P
    split at P
    · rename_i hc
      obtain ⟨ts, ys, f1, f2, f3, f4⟩ := pairsK_rep r1 qp
      rw [szL_val] at hc
      refine ⟨p, ts, ys, rfl, by rw [← f1]; exact SqL.of h1, f2, fun j t q e1 e2 => e.at _ _ (f3 j t q e1 e2), ?_, ?_, fun q hq => P _ _ _ (Grow.fresh e hq) (RK.ownNewK e hq f4)⟩
      · rw [f4.keysV]
        exact hc.1
      · rw [f4.len, sizeLine_eq]
        exact hc.2
    · exact P.elim
theorem sf_DictP (B : Bl X.mg) (ha : SA X E ks [false] (e :: es) t) (hc : X.calm = true := by rfl) (hg : Gl X "dict" := by rfl) (he : starEach (e :: es) X.env = (false, eval e X.env) :: starEach es X.env := by rfl) (hpl : (backTo pos (starEach es X.env)).any (·.1) = false := by rfl) : SE X E ks (.own none) (.Call (.Name "dict" p) (e :: es) [] pos) (gCall fDictP t) :=
  se_callTy (call_dictP hc) callv_dictP B.dict bb_dict ha hg (by decide) (by decide) he hpl
end
end VL
end

noncomputable section
namespace VL
open PySem PySem.Spec PyProof.Rows L2

section
variable {M : Model} {A : Around} {E : Value → Shared → Prop} {s : Shared} {Z : Obj → Prop} {base : Heap} {env cenv : Env} {outer l : List Env} {L e : Addr} {m : Str → Option Value}
theorem looks_anyZ {Q : Unit → Shared → Prop} {fl : Value} (hZ : HandSPX.Steady Z) (hfr : A.frames = some (env :: outer)) (hf : env.frame = some L) (hkb : base.StaysIn s.heap) (hen : base.get? e = none) (hl : s.heap.FunFrames base (env :: outer)) (ht : HandSPX.TracedZ s.heap base e Z fl)
    (hne : (fl == rawInt L) = false) (hQ : ∀ h', HandSPX.HeldZ base (env :: outer) e Z L h' → s.heap.UpToSlots h' → Q () { s with heap := h' }) : wpAny M A (noteFrame (.ref e) env) Q E s := by
  obtain ⟨oe, vs, T, oT, ts, he, hz, hd, h1, hnT, hTe, hT, hdT, h3⟩ := ht
  unfold noteFrame
  simp only [hf]
  refine wpAny_bind (wpAny_field he hd h1 ?_)
  rw [if_pos (show (Value.ref T != Value.none) = true from by simp)]
  refine wpAny_bind (wpAny_field hT hdT h3 ?_)
  rw [if_neg (by rw [hne]; exact Bool.false_ne_true)]
  refine wpAny_bind (wpAny_setField hT hdT (Array.getElem?_eq_some_iff.mp h3).1 ?_)
  have other : ∀ b, b ≠ T → (s.heap.update T (Obj.mapFields (·.setIfInBounds 3 Value.none))).get? b = s.heap.get? b := fun b hb => Heap.get?_update_other _ _ (Ne.symm hb)
  have noRecord : ∀ b o, s.heap.get? b = some o → (∀ vs, o.data ≠ .fields vs) → b ≠ T := fun b o hb hnf q => by
    rw [q, hT] at hb; injection hb with hb; subst hb; exact hnf ts hdT
  refine HandSPX.wpAny_entryZ hZ hfr (hl.of_keeps fun b o hb hnf => ⟨o, (other b (noRecord b o hb hnf)).trans hb, rfl⟩) hf ((other e (Ne.symm hTe)).trans he)
    (fun b o hbo => (other b fun q => by rw [q, hnT] at hbo; cases hbo).trans (hkb b o hbo)) hen hd (Array.getElem?_eq_some_iff.mp h1).1 hz fun h' hN => ?_
  obtain ⟨x1, x2, x3, x4⟩ := hN
  exact hQ h' ⟨x1, hen, x2, x3⟩ fun b o hb hnf => x4 b o ((other b (noRecord b o hb hnf)).trans hb) hnf
theorem looks_anyZN {Q : Unit → Shared → Prop} {fl : Value} (hZ : PXN.Steady1 Z) (hfr : A.frames = some (env :: outer)) (hf : env.frame = some L) (hkb : base.StaysIn s.heap) (hen : base.get? e = none) (hl : s.heap.FunFrames base (env :: outer)) (ht : HandSPX.TracedZ s.heap base e Z fl)
    (hne : (fl == rawInt L) = false) (hQ : ∀ h', HandSPX.HeldZ base (env :: outer) e Z L h' → s.heap.UpToSlots h' → Q () { s with heap := h' }) : wpAny M A (noteFrame (.ref e) env) Q E s := by
  obtain ⟨oe, vs, T, oT, ts, he, hz, hd, h1, hnT, hTe, hT, hdT, h3⟩ := ht
  unfold noteFrame
  simp only [hf]
  refine wpAny_bind (wpAny_field he hd h1 ?_)
  rw [if_pos (show (Value.ref T != Value.none) = true from by simp)]
  refine wpAny_bind (wpAny_field hT hdT h3 ?_)
  rw [if_neg (by rw [hne]; exact Bool.false_ne_true)]
  refine wpAny_bind (wpAny_setField hT hdT (Array.getElem?_eq_some_iff.mp h3).1 ?_)
  have other : ∀ b, b ≠ T → (s.heap.update T (Obj.mapFields (·.setIfInBounds 3 Value.none))).get? b = s.heap.get? b := fun b hb => Heap.get?_update_other _ _ (Ne.symm hb)
  have noRecord : ∀ b o, s.heap.get? b = some o → (∀ vs, o.data ≠ .fields vs) → b ≠ T := fun b o hb hnf q => by
    rw [q, hT] at hb; injection hb with hb; subst hb; exact hnf ts hdT
  refine PXN.wpAny_entryZ hZ hfr (hl.of_keeps fun b o hb hnf => ⟨o, (other b (noRecord b o hb hnf)).trans hb, rfl⟩) hf ((other e (Ne.symm hTe)).trans he)
    (fun b o hbo => (other b fun q => by rw [q, hnT] at hbo; cases hbo).trans (hkb b o hbo)) hen hd (Array.getElem?_eq_some_iff.mp h1).1 hz fun h' hN => ?_
  obtain ⟨x1, x2, x3, x4⟩ := hN
  exact hQ h' ⟨x1, hen, x2, x3⟩ fun b o hb hnf => x4 b o ((other b (noRecord b o hb hnf)).trans hb) hnf
theorem tracedZ_sameBut {h h' : Heap} {C : Addr} {fl : Value} (x : HandSPX.TracedZ h base e Z fl) (hn : h.Ns C m) (hs : Heap.SameBut C h h') : HandSPX.TracedZ h' base e Z fl := by
  obtain ⟨oe, vs, T, oT, ts, he, hz, hd, h1, hnT, hTe, hT, hdT, h3⟩ := x
  obtain ⟨oL, es, ep, hoL, hdL, _⟩ := hn
  have neE : e ≠ C := fun q => by
    rw [q, hoL] at he
    have z := Option.some.inj he
    rw [← z, hdL] at hd
    cases hd
  have neT : T ≠ C := fun q => by
    rw [q, hoL] at hT
    have z := Option.some.inj hT
    rw [← z, hdL] at hdT
    cases hdT
  exact ⟨oe, vs, T, oT, ts, (hs.2 e neE).trans he, hz, hd, h1, hnT, hTe, (hs.2 T neT).trans hT, hdT, h3⟩
theorem compFails_heldZ (hf : cenv.frame = some L) (hbC : base.get? cenv.locals = none) (hn : s.heap.Ns cenv.locals m) (hh : HandSPX.HeldZ base l e Z L s.heap)
    (hQ : ∀ h' h2, Heap.SameBut cenv.locals s.heap h2 → h2.UpToSlots h' → HandSPX.HeldZ base l e Z L h' → E (.ref e) { s with heap := h' }) : CompFails M A E cenv (.ref e) s := by
  refine ⟨m, hn, fun h₂ m₂ hn₂ hs₂ => ?_⟩
  obtain ⟨b1, b0, f1, t1⟩ := hh
  have b2 : base.StaysIn h₂ := fun b o hb => (hs₂.2 b fun q => by rw [q, hbC] at hb; cases hb).trans (b1 b o hb)
  have f2 : h₂.FunFrames base l := Heap.FunFrames.sameBut hs₂ hn₂ f1
  have t2 := tracedZ_sameBut t1 hn hs₂
  have t3 := t2
  obtain ⟨oe, vs, T, oT, ts, he, hz, hd, h1, r⟩ := t2
  unfold PySem.passOn
  refine wpAny_bind (wpAny_field he hd h1 ?_)
  rw [if_neg (show ¬ ((Value.ref T == Value.none) = true) from by simp)]
  rw [hf]
  refine wpAny_bind (HandSPX.setFlight_anyZ (fr := some L) b2 f2 t3 fun h₃ b3 f3 t4 k3 => ?_)
  exact wpAny_throw (hQ h₃ h₂ hs₂ k3 ⟨b3, b0, f3, t4⟩)
end
theorem hide_none {B : Heap} {l : List Addr} {x : Addr} (h : B.get? x = none) : (PySem.W.hideAll B l).get? x = none := by
  cases q : (PySem.W.hideAll B l).get? x with
  | none => rfl
  | some o =>
    have z := PySem.W.of_hideAll _ q
    rw [h] at z
    cases z
/-- a comprehension's block out of which an exception may go -/
abbrev blkE (X : Cx) (s : Shared) (H : Hp) (scope : Scope) (cenv : Env) (fp : List Addr) : Cx := (X.blk s H scope cenv fp).tr [] (notedBy (model X.prog X.w) X.A cenv fun e s' => CompFails (model X.prog X.w) X.A X.xe cenv e s')
theorem inv_blkE {X : Cx} {s : Shared} {H : Hp} {scope : Scope} {cenv : Env} {fp : List Addr} {pins : List (Addr × Obj)} {σ : L2.St} {H' : Hp} {s' : Shared} (I : Inv (X.blk s H scope cenv fp) pins σ H' s') : Inv (blkE X s H scope cenv fp) pins σ H' s' :=
  ⟨I.ok.toTry _ _, I.os, I.bare, I.base, I.loc, I.cell, I.free, I.freeC, I.pin, I.hok, I.len⟩
theorem inv_ofE {X : Cx} {s : Shared} {H : Hp} {scope : Scope} {cenv : Env} {fp : List Addr} {pins : List (Addr × Obj)} {σ : L2.St} {H' : Hp} {s' : Shared} (I : Inv (blkE X s H scope cenv fp) pins σ H' s') : Inv (X.blk s H scope cenv fp) pins σ H' s' :=
  ⟨Cx.Ok.ofTry I.ok, I.os, I.bare, I.base, I.loc, I.cell, I.free, I.freeC, I.pin, I.hok, I.len⟩
/-- the block is let go: what is in the air of the block is in the air of the def -/
theorem takes_blk {X : Cx} {W : WX} (tk : L2.Takes X W) {pins : List (Addr × Obj)} {σ : L2.St} {H3 : Hp} {s3 : Shared} {scope : Scope} {ce : Env} {fp : List Addr} (I3 : Inv X pins σ H3 s3) (hst : X.stack = X.env :: X.outer) (hf : X.env.frame = some X.env.locals)
    (f3 : ∀ b ∈ fp, FpOk X pins H3 b ∧ b < s3.heap.objs.size) (hcf : ce.frame = X.env.frame) (hC : ce.locals = s3.heap.objs.size) : L2.Takes (blkE X s3 H3 scope ce fp) (fun c d _ H => W c d σ H) := by
  rintro u s' ⟨a, B, sI, pins', σ', H', cls, d, rfl, I, nb, up, sky, na, os, ag, w⟩
  have hfr : X.A.frames = some (X.env :: X.outer) := by rw [I3.ok.frames, hst]
  have neL : ce.locals ≠ X.env.locals := by
    rw [hC]
    exact Nat.ne_of_gt I3.lt
  have hBC : (PySem.W.hideAll B [ce.locals]).get? ce.locals = none := PySem.W.hideAll_none _ List.mem_cons_self
  have stay : ∀ {h : Heap}, B.StaysIn h → (PySem.W.hideAll B [ce.locals]).StaysIn h := fun st b o e => st b o (PySem.W.of_hideAll _ e)
  have frames : ∀ {h : Heap}, h.FunFrames B X.stack → h.FunFrames (PySem.W.hideAll B [ce.locals]) (X.env :: X.outer) := fun fr => by
    rw [hst] at fr
    exact funFrames_none fr fun b hb => hide_none (Heap.FunFrames.mem fr hb).1
  have traced : ∀ {h : Heap} {fl : Value}, HandSPX.TracedZ h B a (Zc cls d) fl → HandSPX.TracedZ h (PySem.W.hideAll B [ce.locals]) a (Zc cls d) fl := fun ⟨oe, vs, T, oT, ts, x1, x2, x3, x4, x5, x6⟩ => ⟨oe, vs, T, oT, ts, x1, x2, x3, x4, hide_none x5, x6⟩
  have IX : Inv X pins σ H' { sI with heap := PySem.W.hideAll sI.heap [ce.locals] } := by
    have ub : Un (frs X.stack) fp H3 H' s3.heap sI.heap := I.base
    have off : ∀ b o, s3.heap.get? b = some o → b ∉ [ce.locals] := fun b o e z => by
      have z2 : b = ce.locals := by simpa using z
      rw [z2, hC] at e
      exact absurd (Heap.lt_size e) (Nat.lt_irrefl _)
    refine I3.call' (ch := fp) I.os ⟨fun b o e n x1 x2 => PySem.W.hideAll_get _ (ub.keep b o e n x1 x2) (off b o e), fun b o e n x1 x2 => ?_, ub.free, fun b o e x1 => ?_, ub.tups, ub.frzs, ub.tbls⟩ (fun b u q => ?_) I.bare fun b hb => ⟨(f3 b hb).1.2.2.2.1, (f3 b hb).1.2.1, (f3 b hb).1.2.2.2.2.1, (f3 b hb).1.2.2.2.2.2⟩
    · obtain ⟨sl, e2⟩ := ub.slot b o e n x1 x2
      exact ⟨sl, PySem.W.hideAll_get _ e2 (off b o e)⟩
    · obtain ⟨o2, e2⟩ := ub.there b o e x1
      exact ⟨o2, PySem.W.hideAll_get _ e2 (off b o e)⟩
    · have fr : H' ce.locals = none := I.free
      refine (I.hok b u q).stay (fun c v hc r => PySem.W.hideAll_get _ r fun hm => ?_) (fun _ r => r) fun _ _ r => r
      have z2 : c = ce.locals := by simpa using hm
      rw [z2] at hc
      rcases hc with hc | hc
      · rw [← hc, fr] at q
        cases q
      · rw [fr] at hc
        cases hc
  obtain ⟨m, hm, _⟩ := I.loc
  have hm : sI.heap.Ns ce.locals m := hm
  have K : ∀ h1, HandSPX.HeldZ (PySem.W.hideAll B [ce.locals]) (X.env :: X.outer) a (Zc cls d) X.env.locals h1 → s'.heap.UpToSlots h1 → CompFails (model X.prog X.w) X.A X.xe ce (.ref a) { s' with heap := h1 } := fun h1 hh up1 => by
    refine compFails_heldZ (hcf.trans hf) hBC (Heap.Ns.upToSlots hm (up.trans up1)) hh fun h' h2 hs2 k hh' => ?_
    refine tk _ _ ⟨a, PySem.W.hideAll B [ce.locals], { sI with heap := PySem.W.hideAll sI.heap [ce.locals] }, pins, σ, H', cls, d, rfl, IX, fun b o e hb => ?_, fun b o e hnf => ?_, .inr (.inr (by rw [hst]; exact hh')), na, os, ag, w⟩
    · have nc : b ∉ [ce.locals] := fun z => by
        have z2 : b = ce.locals := by simpa using z
        rw [z2] at e
        rw [show (PySem.W.hideAll sI.heap [ce.locals]).get? ce.locals = none from PySem.W.hideAll_none _ List.mem_cons_self] at e
        cases e
      exact PySem.W.hideAll_get _ (nb b o (PySem.W.of_hideAll _ e) hb) nc
    · have nc : b ≠ ce.locals := fun z2 => by
        rw [z2] at e
        rw [show (PySem.W.hideAll sI.heap [ce.locals]).get? ce.locals = none from PySem.W.hideAll_none _ List.mem_cons_self] at e
        cases e
      obtain ⟨sl, e2⟩ := (up.trans up1) b o (PySem.W.of_hideAll _ e) hnf
      have e3 : h2.get? b = some { o with slots := sl } := (hs2.2 b nc).trans e2
      exact k b { o with slots := sl } e3 hnf
  show wpAny _ _ (noteFrame (.ref a) ce) _ _ s'
  rw [noteFrame_env _ hcf]
  rcases sky with ⟨hB, hn, hl, oe, vs, he, hz, hd, h1⟩ | ⟨hB, hn, hl, tr⟩ | ⟨hB, hn, hl, tr⟩
  · exact HandSPX.look_newZ Zc.steady hfr (frames hl) hf he (stay hB) (hide_none hn) hd h1 hz fun h' hh up1 => K h' hh up1
  · exact looks_anyZ Zc.steady hfr hf (stay hB) (hide_none hn) (frames hl) (traced tr) (by simp [rawInt]) fun h' hh up1 => K h' hh up1
  · refine looks_anyZ Zc.steady hfr hf (stay hB) (hide_none hn) (frames hl) (traced tr) ?_ fun h' hh up1 => K h' hh up1
    show (rawInt ce.locals == rawInt X.env.locals) = false
    refine beq_eq_false_iff_ne.mpr fun z => neL ?_
    unfold rawInt at z
    injection z with z1 _
    exact Int.ofNat_inj.mp z1
/-- the block is let go: what is in the air of the block is in the air of the def (no context) -/
theorem takes_blkN {X : Cx} {W : WX} (tk : L2N.Takes X W) {pins : List (Addr × Obj)} {σ : L2.St} {H3 : Hp} {s3 : Shared} {scope : Scope} {ce : Env} {fp : List Addr} (I3 : Inv X pins σ H3 s3) (hst : X.stack = X.env :: X.outer) (hf : X.env.frame = some X.env.locals)
    (f3 : ∀ b ∈ fp, FpOk X pins H3 b ∧ b < s3.heap.objs.size) (hcf : ce.frame = X.env.frame) (hC : ce.locals = s3.heap.objs.size) : L2N.Takes (blkE X s3 H3 scope ce fp) (fun c d _ H => W c d σ H) := by
  rintro u s' ⟨a, B, sI, pins', σ', H', cls, d, rfl, I, nb, up, sky, na, os, ag, w⟩
  have hfr : X.A.frames = some (X.env :: X.outer) := by rw [I3.ok.frames, hst]
  have neL : ce.locals ≠ X.env.locals := by
    rw [hC]
    exact Nat.ne_of_gt I3.lt
  have hBC : (PySem.W.hideAll B [ce.locals]).get? ce.locals = none := PySem.W.hideAll_none _ List.mem_cons_self
  have stay : ∀ {h : Heap}, B.StaysIn h → (PySem.W.hideAll B [ce.locals]).StaysIn h := fun st b o e => st b o (PySem.W.of_hideAll _ e)
  have frames : ∀ {h : Heap}, h.FunFrames B X.stack → h.FunFrames (PySem.W.hideAll B [ce.locals]) (X.env :: X.outer) := fun fr => by
    rw [hst] at fr
    exact funFrames_none fr fun b hb => hide_none (Heap.FunFrames.mem fr hb).1
  have traced : ∀ {h : Heap} {fl : Value}, HandSPX.TracedZ h B a (L2N.Zn cls d) fl → HandSPX.TracedZ h (PySem.W.hideAll B [ce.locals]) a (L2N.Zn cls d) fl := fun ⟨oe, vs, T, oT, ts, x1, x2, x3, x4, x5, x6⟩ => ⟨oe, vs, T, oT, ts, x1, x2, x3, x4, hide_none x5, x6⟩
  have IX : Inv X pins σ H' { sI with heap := PySem.W.hideAll sI.heap [ce.locals] } := by
    have ub : Un (frs X.stack) fp H3 H' s3.heap sI.heap := I.base
    have off : ∀ b o, s3.heap.get? b = some o → b ∉ [ce.locals] := fun b o e z => by
      have z2 : b = ce.locals := by simpa using z
      rw [z2, hC] at e
      exact absurd (Heap.lt_size e) (Nat.lt_irrefl _)
    refine I3.call' (ch := fp) I.os ⟨fun b o e n x1 x2 => PySem.W.hideAll_get _ (ub.keep b o e n x1 x2) (off b o e), fun b o e n x1 x2 => ?_, ub.free, fun b o e x1 => ?_, ub.tups, ub.frzs, ub.tbls⟩ (fun b u q => ?_) I.bare fun b hb => ⟨(f3 b hb).1.2.2.2.1, (f3 b hb).1.2.1, (f3 b hb).1.2.2.2.2.1, (f3 b hb).1.2.2.2.2.2⟩
    · obtain ⟨sl, e2⟩ := ub.slot b o e n x1 x2
      exact ⟨sl, PySem.W.hideAll_get _ e2 (off b o e)⟩
    · obtain ⟨o2, e2⟩ := ub.there b o e x1
      exact ⟨o2, PySem.W.hideAll_get _ e2 (off b o e)⟩
    · have fr : H' ce.locals = none := I.free
      refine (I.hok b u q).stay (fun c v hc r => PySem.W.hideAll_get _ r fun hm => ?_) (fun _ r => r) fun _ _ r => r
      have z2 : c = ce.locals := by simpa using hm
      rw [z2] at hc
      rcases hc with hc | hc
      · rw [← hc, fr] at q
        cases q
      · rw [fr] at hc
        cases hc
  obtain ⟨m, hm, _⟩ := I.loc
  have hm : sI.heap.Ns ce.locals m := hm
  have K : ∀ h1, HandSPX.HeldZ (PySem.W.hideAll B [ce.locals]) (X.env :: X.outer) a (L2N.Zn cls d) X.env.locals h1 → s'.heap.UpToSlots h1 → CompFails (model X.prog X.w) X.A X.xe ce (.ref a) { s' with heap := h1 } := fun h1 hh up1 => by
    refine compFails_heldZ (hcf.trans hf) hBC (Heap.Ns.upToSlots hm (up.trans up1)) hh fun h' h2 hs2 k hh' => ?_
    refine tk _ _ ⟨a, PySem.W.hideAll B [ce.locals], { sI with heap := PySem.W.hideAll sI.heap [ce.locals] }, pins, σ, H', cls, d, rfl, IX, fun b o e hb => ?_, fun b o e hnf => ?_, .inr (.inr (by rw [hst]; exact hh')), na, os, ag, w⟩
    · have nc : b ∉ [ce.locals] := fun z => by
        have z2 : b = ce.locals := by simpa using z
        rw [z2] at e
        rw [show (PySem.W.hideAll sI.heap [ce.locals]).get? ce.locals = none from PySem.W.hideAll_none _ List.mem_cons_self] at e
        cases e
      exact PySem.W.hideAll_get _ (nb b o (PySem.W.of_hideAll _ e) hb) nc
    · have nc : b ≠ ce.locals := fun z2 => by
        rw [z2] at e
        rw [show (PySem.W.hideAll sI.heap [ce.locals]).get? ce.locals = none from PySem.W.hideAll_none _ List.mem_cons_self] at e
        cases e
      obtain ⟨sl, e2⟩ := (up.trans up1) b o (PySem.W.of_hideAll _ e) hnf
      have e3 : h2.get? b = some { o with slots := sl } := (hs2.2 b nc).trans e2
      exact k b { o with slots := sl } e3 hnf
  show wpAny _ _ (noteFrame (.ref a) ce) _ _ s'
  rw [noteFrame_env _ hcf]
  rcases sky with ⟨hB, hn, hl, oe, vs, he, hz, hd, h1⟩ | ⟨hB, hn, hl, tr⟩ | ⟨hB, hn, hl, tr⟩
  · exact PXN.look_newZ L2N.Zn.steady hfr (frames hl) hf he (stay hB) (hide_none hn) hd h1 hz fun h' hh up1 => K h' hh up1
  · exact looks_anyZN L2N.Zn.steady hfr hf (stay hB) (hide_none hn) (frames hl) (traced tr) (by simp [rawInt]) fun h' hh up1 => K h' hh up1
  · refine looks_anyZN L2N.Zn.steady hfr hf (stay hB) (hide_none hn) (frames hl) (traced tr) ?_ fun h' hh up1 => K h' hh up1
    show (rawInt ce.locals == rawInt X.env.locals) = false
    refine beq_eq_false_iff_ne.mpr fun z => neL ?_
    unfold rawInt at z
    injection z with z1 _
    exact Int.ofNat_inj.mp z1
theorem takes_blkM [md : Md] {X : Cx} {W : WX} (tk : Takes X W) {pins : List (Addr × Obj)} {σ : L2.St} {H3 : Hp} {s3 : Shared} {scope : Scope} {ce : Env} {fp : List Addr} (I3 : Inv X pins σ H3 s3) (hst : X.stack = X.env :: X.outer) (hf : X.env.frame = some X.env.locals)
    (f3 : ∀ b ∈ fp, FpOk X pins H3 b ∧ b < s3.heap.objs.size) (hcf : ce.frame = X.env.frame) (hC : ce.locals = s3.heap.objs.size) : Takes (blkE X s3 H3 scope ce fp) (fun c d _ H => W c d σ H) := by
  obtain ⟨n⟩ := md
  cases n
  · exact takes_blk tk I3 hst hf f3 hcf hC
  · exact takes_blkN tk I3 hst hf f3 hcf hC
end VL
end

noncomputable section
namespace VL
open PySem PySem.Spec PyProof.Rows L2
variable {md : Md}

def gTurnX (t : Tg) (vs : List Nat) (tt : Sl → R Bool) (ge : Sl → R D) (r : Sl) (d : D) : R (Option D) := do
  let xs ← noX (t.un d)
  let b ← noX (tt (setD (wipeD r vs) t.is xs))
  if b then (do
    let y ← ge (setD (wipeD r vs) t.is xs)
    .ok (some y)) else .ok none
def gCompX (gi : Sl → R (List D)) (t : Tg) (vs : List Nat) (tt : Sl → R Bool) (ge : Sl → R D) : Sl → R D := fun r => do
  let ds ← gi r
  let os ← mapR (gTurnX t vs tt ge r) ds
  .ok (.lst (os.filterMap id))
theorem mapR_exc {α β : Type} {f : α → R β} {x : Exc} : ∀ {l : List α}, mapR f l = .exc x → ∃ (os : List β) (d : α), os.length < l.length ∧ l[os.length]? = some d ∧ f d = .exc x ∧ ∀ (i : Nat) a, i < os.length → l[i]? = some a → ∃ b, os[i]? = some b ∧ f a = .ok b
  | [], h => by cases h
  | a :: l, h => by
    dsimp only [mapR] at h
    cases q : f a with
    | stuck => rw [q] at h; cases h
    | exc y =>
      rw [q] at h
      cases h
      exact ⟨[], a, by simp, rfl, q, fun i a hi => by simp at hi⟩
    | ok b =>
      rw [q] at h
      cases q2 : mapR f l with
      | stuck => rw [show (R.ok b >>= fun b => mapR f l >>= fun bs => R.ok (b :: bs)) = (mapR f l >>= fun bs => R.ok (b :: bs)) from rfl, q2] at h; cases h
      | ok bs => rw [show (R.ok b >>= fun b => mapR f l >>= fun bs => R.ok (b :: bs)) = (mapR f l >>= fun bs => R.ok (b :: bs)) from rfl, q2] at h; cases h
      | exc y =>
        rw [show (R.ok b >>= fun b => mapR f l >>= fun bs => R.ok (b :: bs)) = (mapR f l >>= fun bs => R.ok (b :: bs)) from rfl, q2] at h
        cases h
        obtain ⟨os, d, h1, h2, h3, h4⟩ := mapR_exc q2
        refine ⟨b :: os, d, by simpa using h1, by simpa using h2, h3, fun i a' hi e => ?_⟩
        cases i with
        | zero => cases e; exact ⟨b, rfl, q⟩
        | succ i => simpa using h4 i a' (by simpa using hi) (by simpa using e)
def rdX [md : Md] (X : Cx) (scope : Scope) (elt : Expr) (W : WX) : TE := fun σ H Q => ∀ (s : Shared) (H0 : Hp) (C : Addr) (cl : List (Str × Addr)) (fp : List Addr), Takes (blkE X s H0 scope (compEnvC scope cl C X.env) fp) W → WEx (blkE X s H0 scope (compEnvC scope cl C X.env) fp) elt σ H Q
/-- the comprehension as a value; its item in a block that lets exceptions out -/
theorem we_lcE {X : Cx} {W : WX} {σ : L2.St} {H : Hp} {Q : VK} {elt tg iter : Expr} {ifs : List Expr} {scope : Scope} {own : List (Str × Nat)} {pos : Pos} {wi : TI} {g : TG} {tt : TT} (tk : Takes X W) (hst : X.stack = X.env :: X.outer) (hf : X.env.frame = some X.env.locals)
    (hc : X.calm = true) (hN : X.N.Nodup) (hi : PI X tg iter wi) (ok : BlkOk X.N X.env.scope scope own)
    (hg : ∀ (s : Shared) (H : Hp) (C : Addr) (cl : List (Str × Addr)) (fp : List Addr), PG (X.blk s H scope (compEnvC scope cl C X.env) fp) tg g) (ht : ∀ (s : Shared) (H : Hp) (C : Addr) (cl : List (Str × Addr)) (fp : List Addr), PTs (X.blk s H scope (compEnvC scope cl C X.env) fp) ifs tt)
    (hs : ∀ x, foldedSetIterable iter X.env x = pure x) (h : tLc wi g tt (rdX X scope elt (fun c d _ H => W c d σ H)) (own.map (·.2)) σ H Q) : WEx X (.ListComp elt [⟨tg, iter, ifs, 0⟩] scope pos) σ H Q := by
  intro pins s I
  rw [eval_ListComp]
  have hfree : ∀ y ∈ scope.names, y.2 = .free → ∃ c, X.env.cells.lookup y.1 = some c := fun y hy e => by
    rcases ok.free y hy e with k | k
    · exact I.ok.has _ (.inl k)
    · exact I.ok.has _ (.inr k)
  refine comprehension_at (use := none) rfl hs (closure_ok hfree) ok.kind (fun y hy e => by rw [ok.uniq y hy, e])
    (thn (hi.run pins s σ H _ I h) fun xv s1 hx => thn hx fun itv s2 h2 => ?_)
  obtain ⟨it, fp, tn, J, H2, e, I2, T, st2, f2, q⟩ := h2
  subst e
  refine wpAny_newObj_type (newEnv_comp ?_) (by show 0 ≤ sizeLine; decide)
  generalize hD : s2.heap.objs.size = D
  have hDn : H2 D = none := I2.hok.fresh (Nat.le_of_eq hD)
  obtain ⟨Wt, ⟨m0, w0⟩, turn⟩ := q D hDn
  generalize hs3 : ({ s2 with heap := s2.heap.push { cls := .type "list", data := .seq ([] : List Value).toArray } } : Shared) = s3
  have I3 : Inv X pins σ (upd H2 D (.lst [])) s3 := by
    rw [← hs3]
    refine I2.laid (t' := s2.toks) (fun b o e => Heap.get?_push_of_some _ e) (Nat.le_of_eq hD) ⟨Nat.zero_le _, [], 0, .nil, ?_⟩
    rw [← hD]
    exact Heap.get?_push_size _ rfl
  have h3 : s3.heap = s2.heap.push { cls := .type "list", data := .seq ([] : List Value).toArray } := by rw [← hs3]
  have sz : ∀ b ∈ fp, b < s2.heap.objs.size := fun b hb => by
    obtain ⟨o, e, _⟩ := T.obj _ _ st2 b hb
    exact Heap.lt_size e
  have f3 : ∀ b ∈ fp, FpOk X pins (upd H2 D (.lst [])) b ∧ b < s3.heap.objs.size := fun b hb => by
    have hlt := sz b hb
    refine ⟨⟨?_, (f2 b hb).2⟩, by rw [h3, Heap.size_push]; exact Nat.lt_succ_of_lt hlt⟩
    rw [upd_ne (by rw [← hD]; exact Nat.ne_of_lt hlt)]
    exact (f2 b hb).1
  have st3 : tn 0 s3.heap := T.keep _ _ _ st2 fun b _ o e => by rw [h3]; exact Heap.get?_push_of_some _ e
  have I4 := block_start I3 ok hN f3
  have pg := hg s3 (upd H2 D (.lst [])) s3.heap.objs.size (cellsFrom (s3.heap.objs.size + 1) scope.names (cloFrom X.env.cells scope.names [])) fp
  have pt := ht s3 (upd H2 D (.lst [])) s3.heap.objs.size (cellsFrom (s3.heap.objs.size + 1) scope.names (cloFrom X.env.cells scope.names [])) fp
  have tkB := takes_blkM tk (scope := scope) (ce := compEnvC scope (cellsFrom (s3.heap.objs.size + 1) scope.names (cloFrom X.env.cells scope.names [])) s3.heap.objs.size X.env) I3 hst hf f3 rfl rfl
  have pe : ∀ σ' H' Q', rdX X scope elt (fun c d _ H => W c d σ H) σ' H' Q' → WEx (blkE X s3 (upd H2 D (.lst [])) scope (compEnvC scope (cellsFrom (s3.heap.objs.size + 1) scope.names (cloFrom X.env.cells scope.names [])) s3.heap.objs.size X.env) fp) elt σ' H' Q' :=
    fun σ' H' Q' h => h s3 (upd H2 D (.lst [])) s3.heap.objs.size (cellsFrom (s3.heap.objs.size + 1) scope.names (cloFrom X.env.cells scope.names [])) fp tkB
  clear tkB
  show codeAny _ _ (.compStart (.ListComp elt [⟨tg, iter, ifs, 0⟩] scope pos) 0 (.ref it) (.ref D) (compEnvC scope (cellsFrom (s3.heap.objs.size + 1) scope.names (cloFrom X.env.cells scope.names [])) s3.heap.objs.size X.env)) (compEnds (model X.prog X.w) X.A X.xe none (EP X pins σ Q) (.ref D) (compEnvC scope (cellsFrom (s3.heap.objs.size + 1) scope.names (cloFrom X.env.cells scope.names [])) s3.heap.objs.size X.env)) { s3 with heap := pushCells (s3.heap.push { cls := .type "dict", data := .dict #[] }) scope.names }
  have nfp : ∀ b ∈ fp, (upd H2 D (.lst [])) b = none := fun b hb => (f3 b hb).1.1
  generalize hce : compEnvC scope (cellsFrom (s3.heap.objs.size + 1) scope.names (cloFrom X.env.cells scope.names [])) s3.heap.objs.size X.env = ce at I4 pg pt pe ⊢
  have cL : ce.locals = s3.heap.objs.size := by subst hce; rfl
  generalize hH3 : upd H2 D (.lst []) = H3 at I3 I4 pg pt pe w0 nfp f3
  generalize hs4 : ({ s3 with heap := pushCells (s3.heap.push { cls := .type "dict", data := .dict #[] }) scope.names } : Shared) = s4 at I4 ⊢
  have st4 : tn 0 s4.heap := T.keep _ _ _ st3 fun b _ o e => by rw [← hs4]; exact pushCells_keeps _ _ _ _ (Heap.get?_push_of_some _ e)
  have stat : ∀ {σ' : L2.St} {H' : Hp} {s' : Shared}, Inv (X.blk s3 H3 scope ce fp) [] σ' H' s' → (∀ b ∈ fp, H' b = none) → ∀ b ∈ fp, FpOk (X.blk s3 H3 scope ce fp) [] H' b := fun {σ' H' s'} I' hn b hb =>
    ⟨hn b hb, (I'.ok.exf b hb).1, I'.ok.exfs b hb, .inl hb, fun x c e => (I'.ok.exf b hb).2 x c e, fun p hp => absurd (show p ∈ ([] : List (Addr × Obj)) ++ [] from hp) (by simp)⟩
  have loop : codeAny (model X.prog X.w) X.A (.compLoop (.ListComp elt [⟨tg, iter, ifs, 0⟩] scope pos) 0 (.ref it) (.ref D) ce) (compEnds (model X.prog X.w) X.A X.xe none (EP X pins σ Q) (.ref D) ce) s4 := by
    refine compLoop_any (fun n s' => ∃ i H', Inv (X.blk s3 H3 scope ce fp) [] (wipe σ (own.map (·.2))) H' s' ∧ tn i s'.heap ∧ (∀ b ∈ fp, H' b = none) ∧ Wt i n H') ?_ m0 ⟨0, H3, I4, st4, nfp, w0⟩
    rintro n s5 ⟨i, H5, I5, st5, n5, w5⟩
    rcases turn i n H5 w5 with ⟨stop, qq⟩ | ⟨go, Nx, hNx, step⟩
    · have td := T.done (X.blk s3 H3 scope ce fp) rfl rfl rfl hc i [] s5 _ H5 (fun _ _ => False) I5 (stat I5 n5) st5 stop
      refine thnF td fun r s6 ⟨hr, I6⟩ => ?_
      subst hr
      have I7 : Inv X pins σ H5 s6 := I3.call' (ch := fp) I6.os I6.base I6.hok I6.bare fun b hb => ⟨(f3 b hb).1.2.2.2.1, (f3 b hb).1.2.1, (f3 b hb).1.2.2.2.2.1, (f3 b hb).1.2.2.2.2.2⟩
      have nC : H5 s3.heap.objs.size = none := by
        have z : H5 ce.locals = none := I6.free
        rw [cL] at z
        exact z
      obtain ⟨m, hn, _⟩ := I6.loc
      have hn : s6.heap.Ns ce.locals m := hn
      obtain ⟨f0, f1, f2, f3, f4, f5⟩ := I3.fpOk (Nat.le_refl _) nC
      rw [← cL] at f0 f1 f2 f3 f4 f5
      exact ⟨m, hn, fun h'' sb => ⟨.ref D, H5, I7.turned (t' := s6.toks) (fun b o hb e => (sb.2 b hb).trans e) f0 f1 f3 f4 f5, rfl, qq⟩⟩
    · have ti := T.item (X.blk s3 H3 scope ce fp) rfl rfl rfl hc i [] s5 _ H5 (fun _ _ => False) I5 (stat I5 n5) st5 go
      refine thnF ti fun r s6 ⟨u, hr, h6⟩ => ?_
      subst hr
      refine thnF h6 fun _ s7 ⟨x, H7, I7, r7, y7, st7, n7⟩ => ?_
      have I7' := I7.pinned (stat I7 n7) (T.obj _ _ st7)
      refine thnF (pg.run _ s7 _ H7 x u _ I7' r7 (step x H7 y7)) fun _ s8 ⟨σ8, H8, I8, hw8, q8⟩ => ?_
      refine thnF (pt.run _ s8 σ8 H8 _ I8 q8) fun b s9 ⟨H9, I9, q9⟩ => ?_
      have fin : ∀ {s' : Shared} {H' : Hp}, Inv (X.blk s3 H3 scope ce fp) ([] ++ pinsAt fp s7.heap) σ8 H' s' → Nx H' → ∃ m, m < n ∧ ∃ i H', Inv (X.blk s3 H3 scope ce fp) [] (wipe σ (own.map (·.2))) H' s' ∧ tn i s'.heap ∧ (∀ b ∈ fp, H' b = none) ∧ Wt i m H' := fun {s' H'} I' nx => by
        obtain ⟨m', hm, w'⟩ := hNx H' nx
        have pin' : ∀ b ∈ fp, ∀ o, s7.heap.get? b = some o → s'.heap.get? b = some o ∧ H' b = none := fun b hb o e =>
          let z := I'.pin (b, o) (List.mem_append_right _ (List.mem_append_right _ (mem_pinsAt hb e)))
          ⟨z.1, z.2.1⟩
        have hl : (wipe σ (own.map (·.2))).length = σ8.length := by rw [← hw8, wipe_length]
        refine ⟨m', hm, i + 1, H', (I'.unpinned (pins := [])).weak hl (fun j v e => ?_), T.keep _ _ _ st7 fun b hb o e => (pin' b hb o e).1, fun b hb => ?_, w'⟩
        · rw [← hw8] at e
          exact (wipe_some e).1
        · obtain ⟨o, e, _⟩ := T.obj _ _ st7 b hb
          exact (pin' b hb o e).2
      cases b with
      | false =>
        simp only [Bool.false_eq_true, if_false] at q9 ⊢
        exact fin I9 q9
      | true =>
        simp only [if_true] at q9 ⊢
        have P9 := pe σ8 H9 _ q9 _ s9 (inv_blkE I9)
        refine wpAny_mono P9 (fun z s10 ⟨yv, H10, I10, r10, acc, hD10, hz10, nx⟩ => ?_) fun _ _ z => z
        have I10' := inv_ofE I10
        exact thnF (app_ok (X := X.blk s3 H3 scope ce fp) (E := fun _ _ => False) (Q := fun _ s11 => ∃ m, m < n ∧ ∃ i H', Inv (X.blk s3 H3 scope ce fp) [] (wipe σ (own.map (·.2))) H' s11 ∧ tn i s11.heap ∧ (∀ b ∈ fp, H' b = none) ∧ Wt i m H') I10' hD10 hz10 r10 fun s11 I11 => fin I11 nx) fun _ _ z => z
  exact codeAny_compStart_list loop (T.self X.A 0 _ _ _ st4 loop)
theorem noX_exc {α : Type} {r : R α} {x : Exc} : noX r ≠ .exc x := by
  cases r <;> simp [noX]
/-- the reading of such a comprehension -/
theorem comp_readX {X : Cx} {E : En} {ks : List Kd} {elt tg iter : Expr} {ifs : List Expr} {scope : Scope} {vs : List Nat} {t : Tg} {gi : Sl → R (List D)} {tt : Sl → R Bool} {ge : Sl → R D}
    (hi : SI X E ks false tg iter gi) (hv : ∀ i ∈ vs, i < ks.length) (hm : ∀ i ∈ t.is, i ∈ vs)
    (hg : ∀ (s : Shared) (H : Hp) (C : Addr) (cl : List (Str × Addr)) (fp : List Addr), SG (X.blk s H scope (compEnvC scope cl C X.env) fp) tg t)
    (ht : ∀ (s : Shared) (H : Hp) (C : Addr) (cl : List (Str × Addr)) (fp : List Addr), SP1 (X.blk s H scope (compEnvC scope cl C X.env) fp) E (setK (wipeK ks vs) t.is) ifs tt)
    (he : ∀ (s : Shared) (H : Hp) (C : Addr) (cl : List (Str × Addr)) (fp : List Addr), SE (blkE X s H scope (compEnvC scope cl C X.env) fp) E (setK (wipeK ks vs) t.is) .val elt ge)
    {Hs H : Hp} {r : Sl} {σ : L2.St} {W : WX} {Q : VK} (tk : Takes X W) (S : StRel E Hs H ks r σ) (P : Post E.cl (.own none) Hs H Q (fun c dd H' => W c dd σ H') (gCompX gi t vs tt ge r)) :
    tLc (WIx X tg iter) (rdG X scope tg) (rdT X scope ifs) (rdX X scope elt (fun c d _ H => W c d σ H)) vs σ H Q := by
  refine hi.run _ _ _ _ _ _ tk S ?_
  unfold gCompX at P
  cases q : gi r with
  | stuck => rw [q] at P; exact P
  | exc x => rw [q] at P; exact P
  | ok ds =>
    rw [q] at P
    intro J Hs1 H1 g1 J1 D hD
    have P1 := Post.grow (r := mapR (gTurnX t vs tt ge r) ds >>= fun os => R.ok (VL.D.lst (os.filterMap id))) P g1
    have key : ∃ (n : Nat) (os : List (Option VL.D)), n ≤ ds.length ∧ os.length = n ∧ (∀ i d, i < n → ds[i]? = some d → ∃ o, os[i]? = some o ∧ gTurnX t vs tt ge r d = .ok o) ∧
        ((n = ds.length ∧ Post E.cl (.own none) Hs1 H1 Q (fun c dd H' => W c dd σ H') (R.ok (VL.D.lst (os.filterMap id)))) ∨ (n < ds.length ∧ ∃ d x, ds[n]? = some d ∧ gTurnX t vs tt ge r d = .exc x ∧ ∀ c dd Hs' H', Grow Hs1 H1 Hs' H' → XRep E.cl Hs' H' x c dd → W c dd σ H')) := by
      cases q2 : mapR (gTurnX t vs tt ge r) ds with
      | stuck => rw [q2] at P1; exact P1.elim
      | exc x =>
        rw [q2] at P1
        obtain ⟨os, d, h1, h2, h3, h4⟩ := mapR_exc q2
        exact ⟨os.length, os, Nat.le_of_lt h1, rfl, h4, .inr ⟨h1, d, x, h2, h3, P1⟩⟩
      | ok os =>
        rw [q2] at P1
        obtain ⟨h1, h2⟩ := mapR_ok q2
        exact ⟨ds.length, os, Nat.le_refl _, h1, fun i d _ e => h2 i d e, .inl ⟨rfl, P1⟩⟩
    clear P P1
    obtain ⟨n, os, hn, hos, hturn, hend⟩ := key
    have S1 := S.grow g1
    refine ⟨fun i m H' => m = ds.length - i ∧ i ≤ n ∧ ∃ Hs' acc, Grow Hs1 H1 Hs' H' ∧ H' D = some (.lst acc) ∧ Hs' D = none ∧ RepL E.cl Hs' ((os.take i).filterMap id) acc ∧ acc.length ≤ i,
      ⟨ds.length, by simp, Nat.zero_le _, Hs1, [], Grow.fresh g1.sub hD, upd_same, g1.sub.free hD, .nil, Nat.le_refl _⟩, ?_⟩
    rintro i m H' ⟨rfl, hi', Hs', acc, g2, eD, nD, rp, hacc⟩
    have sq : Same (bq E false H1) H' := g2.h
    by_cases hst : i = n ∧ n = ds.length
    · obtain ⟨rfl, hl⟩ := hst
      rcases hend with ⟨_, P1'⟩ | ⟨z, _⟩
      · refine .inl ⟨by rw [hl]; exact J1.stop Hs' H' g2.s g2.sub sq, ?_⟩
        rw [← hos, List.take_length] at rp
        refine P1' (.ref D) Hs' H' g2 ⟨[D], .ownL ⟨hD, fun _ z => nomatch z⟩ eD rp, by simp, fun a ha => ?_⟩
        have q : a = D := by simpa using ha
        subst q
        exact ⟨nD, hD⟩
      · exact absurd hl (Nat.ne_of_lt z)
    · have hlt : i < ds.length := by omega
      refine .inr ⟨J1.go Hs' H' g2.s g2.sub sq i hlt, fun H2 => i < n ∧ ∃ Hs2 acc2, Grow Hs1 H1 Hs2 H2 ∧ H2 D = some (.lst acc2) ∧ Hs2 D = none ∧ RepL E.cl Hs2 ((os.take (i + 1)).filterMap id) acc2 ∧ acc2.length ≤ i + 1, ?_, ?_⟩
      · rintro H2 ⟨z0, Hs2, acc2, z1, z2, z3, z4, z5⟩
        exact ⟨ds.length - (i + 1), by omega, rfl, z0, Hs2, acc2, z1, z2, z3, z4, z5⟩
      · intro x H2 y s0 H0 C cl fp
        obtain ⟨d, hd⟩ : ∃ d, ds[i]? = some d := ⟨ds[i], by simp [hlt]⟩
        obtain ⟨Hs2, g3, rx⟩ := J1.yld Hs' H' g2.s g2.sub sq i d x H2 hd y
        have hf : (∃ o, os[i]? = some o ∧ i < n ∧ gTurnX t vs tt ge r d = .ok o) ∨ ∃ x, gTurnX t vs tt ge r d = .exc x ∧ ∀ c dd Hs' H', Grow Hs1 H1 Hs' H' → XRep E.cl Hs' H' x c dd → W c dd σ H' := by
          by_cases c : i < n
          · obtain ⟨o, e1, e2⟩ := hturn i d c hd
            exact .inl ⟨o, e1, c, e2⟩
          · have ei : i = n := by omega
            rcases hend with ⟨z, _⟩ | ⟨_, d', x, e1, e2, e3⟩
            · exact absurd ⟨ei, z⟩ hst
            · rw [← ei, hd] at e1
              cases e1
              exact .inr ⟨x, e2, e3⟩
        unfold gTurnX at hf
        cases q4 : noX (t.un d) with
        | stuck => rw [q4] at hf; rcases hf with ⟨_, _, _, z⟩ | ⟨_, z, _⟩ <;> cases z
        | exc x => exact absurd q4 noX_exc
        | ok xs =>
          rw [q4] at hf
          have q4' := noX_ok q4
          refine (hg s0 H0 C cl fp).run E.cl Hs2 H2 _ d x xs _ g3.sub rx q4' fun ys ry => ⟨by rw [wipe_setV hm, wipe_idem], fun s1 H01 C1 cl1 fp1 => ?_⟩
          have g23 := g2.trans g3
          obtain ⟨S2, hl2⟩ := StRel.wipe (S1.grow g23) vs hv
          have S3 : StRel E Hs2 H2 (setK (wipeK ks vs) t.is) (setD (wipeD r vs) t.is xs) (setV (wipe σ vs) t.is ys) :=
            StRel.puts S2 (fun j hj => by rw [hl2]; exact hv j (hm j hj)) (Tg.un_len q4') ry
          have eD2 : H2 D = some (.lst acc) := g3.h.at _ _ eD
          have nD2 : ∀ {Hsx Hx : Hp}, Grow Hs' H' Hsx Hx → Hsx D = none := fun {Hsx Hx} gx => by
            cases qq : Hsx D with
            | none => rfl
            | some u =>
              rcases gx.n D (by rw [qq]; simp) with z | z
              · exact absurd nD z
              · rw [eD] at z; cases z
          refine (ht s1 H01 C1 cl1 fp1).run _ _ _ _ (fun _ _ _ _ => False) _ takesF S3 ?_
          have hf' : (∃ o, os[i]? = some o ∧ i < n ∧ (noX (tt (setD (wipeD r vs) t.is xs)) >>= fun b => if b then (ge (setD (wipeD r vs) t.is xs) >>= fun y => R.ok (some y)) else R.ok none) = R.ok o) ∨
              ∃ x, (noX (tt (setD (wipeD r vs) t.is xs)) >>= fun b => if b then (ge (setD (wipeD r vs) t.is xs) >>= fun y => R.ok (some y)) else R.ok none) = R.exc x ∧ ∀ c dd Hs' H', Grow Hs1 H1 Hs' H' → XRep E.cl Hs' H' x c dd → W c dd σ H' := hf
          cases q5 : noX (tt (setD (wipeD r vs) t.is xs)) with
          | stuck => rw [q5] at hf'; rcases hf' with ⟨_, _, _, z⟩ | ⟨_, z, _⟩ <;> cases z
          | exc x => exact absurd q5 noX_exc
          | ok b =>
            rw [q5] at hf'
            rw [noX_ok q5]
            intro Hs3 H3 g4
            cases b with
            | false =>
              rcases hf' with ⟨o, ho, hin, e0⟩ | ⟨_, e0, _⟩
              · have e0 : (R.ok none : R (Option VL.D)) = R.ok o := e0
                cases e0
                refine iteF ⟨hin, Hs3, acc, g23.trans g4, g4.h.at _ _ eD2, nD2 (g3.trans g4), ?_, by omega⟩
                rw [filterMap_take ho]
                simpa using RepL.same (g3.trans g4).s _ _ rp
              · cases e0
            | true =>
              refine iteT fun s2 H02 C2 cl2 fp2 tkB => ?_
              refine (he s2 H02 C2 cl2 fp2).run _ _ _ _ _ _ tkB (S3.grow g4) ?_
              have hf2 : (∃ o, os[i]? = some o ∧ i < n ∧ (ge (setD (wipeD r vs) t.is xs) >>= fun y => R.ok (some y)) = R.ok o) ∨ ∃ x, (ge (setD (wipeD r vs) t.is xs) >>= fun y => R.ok (some y)) = R.exc x ∧ ∀ c dd Hs' H', Grow Hs1 H1 Hs' H' → XRep E.cl Hs' H' x c dd → W c dd σ H' := hf'
              cases q6 : ge (setD (wipeD r vs) t.is xs) with
              | stuck => rw [q6] at hf2; rcases hf2 with ⟨_, _, _, z⟩ | ⟨_, z, _⟩ <;> cases z
              | exc x =>
                rw [q6] at hf2
                rcases hf2 with ⟨_, _, _, z⟩ | ⟨x', z, pe⟩
                · cases z
                · cases z
                  exact fun c dd Hs4 H4 g5 xr => pe c dd Hs4 H4 ((g23.trans g4).trans g5) xr
              | ok y =>
                rw [q6] at hf2
                rcases hf2 with ⟨o, ho, hin, e0⟩ | ⟨_, e0, _⟩
                · have e0 : (R.ok (some y) : R (Option VL.D)) = R.ok o := e0
                  cases e0
                  intro v Hs4 H4 g5 k5
                  have g35 := (g3.trans g4).trans g5
                  have hD4 : H4 D = some (.lst acc) := g35.h.at _ _ eD
                  have hN4 := nD2 g35
                  have g25 := g2.trans g35
                  have hz : acc.length < sizeLine := by
                    rw [szL_eq]
                    have := J1.len
                    omega
                  refine ⟨acc, hD4, hz, hin, Hs4, acc ++ [v], ⟨g25.s, ⟨fun b u e nt => ?_⟩, g25.n, ⟨fun b u e nt => ?_⟩, fun P z => tab_mut hD4 P (g25.t P z)⟩, upd_same, hN4, ?_, by simp; omega⟩
                  · rw [upd_ne (ne_of_none e hD)] at nt ⊢
                    exact g25.h.k _ _ e nt
                  · rw [upd_ne (ne_of_none e hN4)] at nt ⊢
                    exact g25.sub.k _ _ e nt
                  · rw [filterMap_take ho]
                    exact (RepL.same g35.s _ _ rp).app (.cons k5.rep .nil)
                · cases e0
theorem se_compX {X : Cx} {E : En} {ks : List Kd} {elt tg iter : Expr} {ifs : List Expr} {scope : Scope} {pos : Pos} {t : Tg} {gi : Sl → R (List D)} {tt : Sl → R Bool} {ge : Sl → R D}
    (own : List (Str × Nat)) (hc : X.calm = true) (hN : X.N.Nodup) (hi : SI X E ks false tg iter gi) (ok : BlkOk X.N X.env.scope scope own) (hv : ∀ i ∈ own.map (·.2), i < ks.length) (hm : ∀ i ∈ t.is, i ∈ own.map (·.2))
    (hg : ∀ (s : Shared) (H : Hp) (C : Addr) (cl : List (Str × Addr)) (fp : List Addr), SG (X.blk s H scope (compEnvC scope cl C X.env) fp) tg t)
    (ht : ∀ (s : Shared) (H : Hp) (C : Addr) (cl : List (Str × Addr)) (fp : List Addr), SP1 (X.blk s H scope (compEnvC scope cl C X.env) fp) E (setK (wipeK ks (own.map (·.2))) t.is) ifs tt)
    (he : ∀ (s : Shared) (H : Hp) (C : Addr) (cl : List (Str × Addr)) (fp : List Addr), SE (blkE X s H scope (compEnvC scope cl C X.env) fp) E (setK (wipeK ks (own.map (·.2))) t.is) .val elt ge)
    (hst : X.stack = X.env :: X.outer := by rfl) (hf : X.env.frame = some X.env.locals := by rfl)
    (hs : ∀ x, foldedSetIterable iter X.env x = pure x := by intro _; rfl) : SE X E ks (.own none) (.ListComp elt [⟨tg, iter, ifs, 0⟩] scope pos) (gCompX gi t (own.map (·.2)) tt ge) := by
  refine ⟨fun Hs H r σ W Q tk S P => ?_⟩
  exact we_lcE tk hst hf hc hN pi_wi ok pg_rd pts_rd hs (comp_readX hi hv hm hg ht he tk S P)
end VL
end

noncomputable section
namespace CW
open PySem PySem.Spec PyProof.Rows L2 VL
def tb_FORMS : List (Str × Str) := [("shut", "n"), ("walk", "nii"), ("put", "ni"), ("take", "ni"), ("mirror", "n"), ("lay", "nni"), ("late", "niii"), ("strike", "ni")]
def m_is_name : Sl → O := (mSeq (mRet (vAnd (gChain dLe dLe (gC (.int 1)) (gCall fLen (gCons (gVar 0) gNil)) (gC (.int 8))) (gCall fAll (gCons (gComp (gIter (gVar 0)) (.one 1) [1] gYes (gBin dIn (gVar 1) (gC (.str "abcdefghijklmnopqrstuvwxyz")))) gNil))))
  mNil)
def f_is_name : List D → R D := runF m_is_name 1

def m_number_in : Sl → O := (mSeq (mSet 1 (gIf (gTest (gBin dEq (gSl (gVar 0) gNoPart (gPart (gC (.int 1)))) (gC (.str "-")))) (gSl (gVar 0) (gPart (gC (.int 1))) gNoPart) (gVar 0)))
  (mSeq (mIf (gOr (gNot (gTest (gChain dLe dLe (gC (.int 1)) (gCall fLen (gCons (gVar 1) gNil)) (gC (.int 60))))) (gNot (gTest (gCall fAll (gCons (gComp (gIter (gVar 1)) (.one 2) [2] gYes (gBin dIn (gVar 2) (gC (.str "0123456789")))) gNil)))))
  (mSeq (mRaiseAt "BadText" (gC (.int 0)))
  mNil)
  mNil)
  (mSeq (mIf (gAnd (gTest (gBin dEq (gBin dIdx (gVar 1) (gC (.int 0))) (gC (.str "0")))) (gTest (gBin dNe (gVar 0) (gC (.str "0")))))
  (mSeq (mRaiseAt "BadText" (gC (.int 0)))
  mNil)
  mNil)
  (mSeq (mRet (gCall fInt (gCons (gVar 0) gNil)))
  mNil))))
def f_number_in : List D → R D := runF m_number_in 2

def m_name_in : Sl → O := (mSeq (mIf (gNot (gTest (gCall f_is_name (gCons (gVar 0) gNil))))
  (mSeq (mRaiseAt "BadText" (gC (.int 0)))
  mNil)
  mNil)
  (mSeq (mRet (gVar 0))
  mNil))
def f_name_in : List D → R D := runF m_name_in 0

def m_parts_in : Sl → O := (mSeq (mIf (gTest (gBin dNe (gCall fLen (gCons (gVar 0) gNil)) (gCall fLen (gCons (gVar 1) gNil))))
  (mSeq (mRaiseAt "BadText" (gC (.int 0)))
  mNil)
  mNil)
  (mSeq (mRet (gCall fTuple (gCons (gCompX (gZipS (gVar 0) (gVar 1)) (.tup [2, 3]) [2, 3] gYes (gIf (gTest (gBin dEq (gVar 3) (gC (.str "n")))) (gCall f_name_in (gCons (gVar 2) gNil)) (gCall f_number_in (gCons (gVar 2) gNil)))) gNil)))
  mNil))
def f_parts_in : List D → R D := runF m_parts_in 2

def m_read_deed : Sl → O := (mSeq (mSet 1 (gSplit (gVar 0) (gC (.str " "))))
  (mSeq (mIf (gAnd (gTest (gBin dEq (gBin dIdx (gVar 1) (gC (.int 0))) (gC (.str "build")))) (gTest (gBin dGt (gCall fLen (gCons (gVar 1) gNil)) (gC (.int 1)))))
  (mSeq (mRet (gTup (gCons (gC (.str "build")) (gCons (gCall f_name_in (gCons (gBin dIdx (gVar 1) (gC (.int 1))) gNil)) (gCons (gCall fTuple (gCons (gCompX (gIter (gSl (gVar 1) (gPart (gC (.int 2))) gNoPart)) (.one 2) [2] gYes (gCall f_number_in (gCons (gVar 2) gNil))) gNil)) gNil)))))
  mNil)
  mNil)
  (mSeq (mIf (gTest (gUn (dGout tb_FORMS) (gBin dIdx (gVar 1) (gC (.int 0)))))
  (mSeq (mRaiseAt "BadText" (gC (.int 0)))
  mNil)
  mNil)
  (mSeq (mRet (gBin dAdd (gTup (gCons (gBin dIdx (gVar 1) (gC (.int 0))) gNil)) (gCall f_parts_in (gCons (gSl (gVar 1) (gPart (gC (.int 1))) gNoPart) (gCons (gUn (dGix tb_FORMS) (gBin dIdx (gVar 1) (gC (.int 0)))) gNil)))))
  mNil))))
def f_read_deed : List D → R D := runF m_read_deed 2

def b_numbers_L_1 : Sl → O := (mSeq (mIf (gTest (gBin dGt (gVar 5) (gC (.int 0))))
  (mSeq (mApp 2 (gBin dMod (gVar 5) (gC (.int 1013))))
  (mSeq (mSet 5 (gBin dFdiv (gVar 5) (gC (.int 1013))))
  mNil))
  mNil)
  mNil)
def b_numbers_L_2 : Sl → O := (mSeq (mSet 3 (gBin dMod (gBin dAdd (gBin dAdd (gBin dMul (gVar 3) (gC (.int 40014))) (gBin dMod (gVar 4) (gC (.int 999983)))) (gC (.int 29))) (gC (.int 2147483563))))
  (mSeq (mSet 5 (gBin dSub (gVar 4) (gBin dPow (gC (.int 10)) (gC (.int 18)))))
  (mSeq (mIf (gTest (gBin dLt (gVar 5) (gC (.int 0))))
  (mSeq (mApp 2 (gBin dMod (gVar 4) (gC (.int 9967))))
  mNil)
  mNil)
  (mSeq (mFor (gRange1 (gC (.int 60))) (.one 6) b_numbers_L_1)
  mNil))))
def b_numbers_L_3 : Sl → O := (mSeq (mSet 3 (gBin dMod (gBin dAdd (gBin dAdd (gBin dAdd (gBin dMul (gVar 3) (gVar 3)) (gBin dMul (gC (.int 52774)) (gVar 3))) (gBin dMul (gC (.int 13)) (gCall fLen (gCons (gVar 2) gNil)))) (gC (.int 7))) (gC (.int 2147483629))))
  (mSeq (mApp 2 (gBin dMod (gBin dFdiv (gVar 3) (gC (.int 1019))) (gC (.int 9967))))
  mNil))
def m_numbers_L : Sl → O := (mSeq (mSet 2 (gLst gNil))
  (mSeq (mSet 3 (gC (.int 59)))
  (mSeq (mFor (gIter (gSlS (gVar 0) gNoPart (gPart (gC (.int 63))))) (.one 4) b_numbers_L_2)
  (mSeq (whileL (gTest (gBin dLt (gCall fLen (gCons (gVar 2) gNil)) (gVar 1))) b_numbers_L_3 WB)
  (mSeq (mRet (gSl (gVar 2) gNoPart (gPart (gVar 1))))
  mNil)))))
def f_numbers_L : List D → R D := runF m_numbers_L 5

def m_same_L (fs : List D → R D) : Sl → O := (mSeq (mIf (gTest (gUn dIsN (gVar 1)))
  (mSeq (mRet (gUn dIsN (gVar 0)))
  mNil)
  mNil)
  (mSeq (mIf (gTest (gUn dIsLT (gVar 1)))
  (mSeq (mIf (gOr (gTest (gBin dNe (gUn (dIs .list) (gVar 0)) (gUn (dIs .list) (gVar 1)))) (gTest (gBin dNe (gUn (dIs .tuple) (gVar 0)) (gUn (dIs .tuple) (gVar 1)))))
  (mSeq (mRet (gC (.bl false)))
  mNil)
  mNil)
  (mSeq (mRet (vAnd (gBin dEq (gCall fLen (gCons (gVar 0) gNil)) (gCall fLen (gCons (gVar 1) gNil))) (gCall fAll (gCons (gComp (gRange1 (gCall fLen (gCons (gVar 1) gNil))) (.one 2) [2] gYes (gCall fs (gCons (gBin dIdx (gVar 0) (gVar 2)) (gCons (gBin dIdx (gVar 1) (gVar 2)) gNil)))) gNil))))
  mNil))
  mNil)
  (mSeq (mIf (gOr (gTest (gBin dNe (gUn (dIs .bool) (gVar 0)) (gUn (dIs .bool) (gVar 1)))) (gTest (gBin dNe (gUn (dIs .str) (gVar 0)) (gUn (dIs .str) (gVar 1)))))
  (mSeq (mRet (gC (.bl false)))
  mNil)
  mNil)
  (mSeq (mRet (vAnd (gBin dEq (gUn (dIs .int) (gVar 0)) (gUn (dIs .int) (gVar 1))) (gBin dEq (gVar 0) (gVar 1))))
  mNil))))
def f_same_L : Nat → List D → R D
  | 0 => fun _ => .stuck
  | n + 1 => runF (m_same_L (f_same_L n)) 1

def b_ten_L_1 : Sl → O := (mSeq (mSet 1 (gBin dMul (gVar 1) (gC (.int 10))))
  mNil)
def m_ten_L : Sl → O := (mSeq (mSet 1 (gC (.int 1)))
  (mSeq (mFor (gRange1 (gVar 0)) (.one 2) b_ten_L_1)
  (mSeq (mRet (gVar 1))
  mNil)))
def f_ten_L : List D → R D := runF m_ten_L 2

def m_text_L : Sl → O := (mSeq (mSet 1 (gIf (gTest (gBin dEq (gBin dIdx (gVar 0) (gC (.int 0))) (gC (.str "build")))) (gCall fList (gCons (gBin dIdx (gVar 0) (gC (.int 2))) gNil)) (gCall fList (gCons (gSl (gVar 0) (gPart (gC (.int 2))) gNoPart) gNil))))
  (mSeq (mRet (gJoin (gC (.str " ")) (gBin dAdd (gLst (gCons (gBin dIdx (gVar 0) (gC (.int 0))) (gCons (gBin dIdx (gVar 0) (gC (.int 1))) gNil))) (gComp (gIter (gVar 1)) (.one 2) [2] gYes (gCall fStr (gCons (gVar 2) gNil))))))
  mNil))
def f_text_L : List D → R D := runF m_text_L 2

def m_any_number_L : Sl → O := (mSeq (mRet (gBin dMul (gBin dSub (gBin dMod (gBin dIdx (gVar 0) (gC (.int 0))) (gC (.int 3))) (gC (.int 1))) (gBin dAdd (gBin dMul (gBin dIdx (gVar 0) (gC (.int 1))) (gCall f_ten_L (gCons (gBin dMod (gBin dIdx (gVar 0) (gC (.int 2))) (gC (.int 57))) gNil))) (gBin dMod (gBin dIdx (gVar 0) (gC (.int 0))) (gC (.int 10))))))
  mNil)
def f_any_number_L : List D → R D := runF m_any_number_L 0

def m_word_L : Sl → O := (mSeq (mRet (gJoin (gC (.str "")) (gComp (gIter (gSl (gVar 0) (gPart (gC (.int 1))) (gPart (gBin dAdd (gC (.int 2)) (gBin dMod (gBin dIdx (gVar 0) (gC (.int 0))) (gC (.int 8))))))) (.one 1) [1] gYes (gBin dIdx (gC (.str "abcdefghijklmnopqrstuvwxyz")) (gBin dMod (gVar 1) (gC (.int 26)))))))
  mNil)
def f_word_L : List D → R D := runF m_word_L 1

def m_any_deed_L : Sl → O := (mSeq (mSet 1 (gBin dIdx (gSplit (gC (.str "build shut walk put take mirror lay late strike")) (gC (.str " "))) (gBin dMod (gBin dIdx (gVar 0) (gC (.int 0))) (gC (.int 9)))))
  (mSeq (mSet 2 (gCall f_word_L (gCons (gSl (gVar 0) (gPart (gC (.int 1))) gNoPart) gNil)))
  (mSeq (mSet 3 (gComp (gRange1 (gC (.int 3))) (.one 4) [4] gYes (gCall f_any_number_L (gCons (gSl (gVar 0) (gPart (gBin dAdd (gC (.int 10)) (gBin dMul (gC (.int 3)) (gVar 4)))) gNoPart) gNil))))
  (mSeq (mIf (gTest (gBin dEq (gVar 1) (gC (.str "build"))))
  (mSeq (mRet (gTup (gCons (gVar 1) (gCons (gVar 2) (gCons (gCall fTuple (gCons (gComp (gRange1 (gBin dMod (gBin dIdx (gVar 0) (gC (.int 1))) (gC (.int 6)))) (.one 4) [4] gYes (gCall f_any_number_L (gCons (gSl (gVar 0) (gPart (gBin dAdd (gC (.int 10)) (gBin dMul (gC (.int 3)) (gVar 4)))) gNoPart) gNil))) gNil)) gNil)))))
  mNil)
  mNil)
  (mSeq (mIf (gTest (gBin dEq (gVar 1) (gC (.str "lay"))))
  (mSeq (mRet (gTup (gCons (gVar 1) (gCons (gVar 2) (gCons (gCall f_word_L (gCons (gSl (gVar 0) (gPart (gC (.int 20))) gNoPart) gNil)) (gCons (gBin dIdx (gVar 3) (gC (.int 0))) gNil))))))
  mNil)
  mNil)
  (mSeq (mSet 5 (gBin dDix (gDisp ["shut", "walk", "put", "take", "mirror", "late", "strike"] (gCons (gC (.int 0)) (gCons (gC (.int 2)) (gCons (gC (.int 1)) (gCons (gC (.int 1)) (gCons (gC (.int 0)) (gCons (gC (.int 3)) (gCons (gC (.int 1)) gNil)))))))) (gVar 1)))
  (mSeq (mRet (gBin dAdd (gTup (gCons (gVar 1) (gCons (gVar 2) gNil))) (gCall fTuple (gCons (gSl (gVar 3) gNoPart (gPart (gVar 5))) gNil))))
  mNil)))))))
def f_any_deed_L : List D → R D := runF m_any_deed_L 5

def m_is_name_L : Sl → O := (mSeq (mRet (vAnd (gChain dLe dLe (gC (.int 1)) (gCall fLen (gCons (gVar 0) gNil)) (gC (.int 8))) (gCall fAll (gCons (gComp (gIter (gVar 0)) (.one 1) [1] gYes (gBin dIn (gVar 1) (gC (.str "abcdefghijklmnopqrstuvwxyz")))) gNil))))
  mNil)
def f_is_name_L : List D → R D := runF m_is_name_L 1

def m_number_L : Sl → O := (mSeq (mSet 1 (gIf (gTest (gBin dEq (gSl (gVar 0) gNoPart (gPart (gC (.int 1)))) (gC (.str "-")))) (gSl (gVar 0) (gPart (gC (.int 1))) gNoPart) (gVar 0)))
  (mSeq (mIf (gOr (gNot (gTest (gChain dLe dLe (gC (.int 1)) (gCall fLen (gCons (gVar 1) gNil)) (gC (.int 60))))) (gNot (gTest (gCall fAll (gCons (gComp (gIter (gVar 1)) (.one 2) [2] gYes (gBin dIn (gVar 2) (gC (.str "0123456789")))) gNil)))))
  (mSeq (mRet (gC .non))
  mNil)
  mNil)
  (mSeq (mIf (gAnd (gTest (gBin dEq (gBin dIdx (gVar 1) (gC (.int 0))) (gC (.str "0")))) (gTest (gBin dNe (gVar 0) (gC (.str "0")))))
  (mSeq (mRet (gC .non))
  mNil)
  mNil)
  (mSeq (mRet (gCall fInt (gCons (gVar 0) gNil)))
  mNil))))
def f_number_L : List D → R D := runF m_number_L 2

def b_reads_L_1 : Sl → O := (mSeq (mSet 7 (gIf (gTest (gBin dEq (gVar 6) (gC (.str "i")))) (gCall f_number_L (gCons (gVar 4) gNil)) (gBin dIdx (gLst (gCons (gC .non) (gCons (gVar 4) gNil))) (gCall fInt (gCons (gCall f_is_name_L (gCons (gVar 4) gNil)) gNil)))))
  (mSeq (mIf (gTest (gUn dIsN (gVar 7)))
  (mSeq (mRet (gC .non))
  mNil)
  mNil)
  (mSeq (mSet 5 (gBin dAdd (gVar 5) (gTup (gCons (gVar 7) gNil))))
  mNil)))
def m_reads_L : Sl → O := (mSeq (mSet 1 (gDisp ["shut", "walk", "put", "take", "mirror", "lay"] (gCons (gC (.str "n")) (gCons (gC (.str "nii")) (gCons (gC (.str "ni")) (gCons (gC (.str "ni")) (gCons (gC (.str "n")) (gCons (gC (.str "nni")) gNil))))))))
  (mSeq (mSet 1 (gCall fDictP (gCons (gBin dAdd (gUn dItemsK (gVar 1)) (gLst (gCons (gTup (gCons (gC (.str "late")) (gCons (gC (.str "niii")) gNil))) (gCons (gTup (gCons (gC (.str "strike")) (gCons (gC (.str "ni")) gNil))) gNil)))) gNil)))
  (mSeq (mSet 2 (gSplit (gVar 0) (gC (.str " "))))
  (mSeq (mIf (gAnd (gTest (gBin dEq (gBin dIdx (gVar 2) (gC (.int 0))) (gC (.str "build")))) (gTest (gBin dGt (gCall fLen (gCons (gVar 2) gNil)) (gC (.int 1)))))
  (mSeq (mSet 3 (gComp (gIter (gSl (gVar 2) (gPart (gC (.int 2))) gNoPart)) (.one 4) [4] gYes (gCall f_number_L (gCons (gVar 4) gNil))))
  (mSeq (mRet (gIf (gAnd (gTest (gCall f_is_name_L (gCons (gBin dIdx (gVar 2) (gC (.int 1))) gNil))) (gTest (gBin dNotIn (gC .non) (gVar 3)))) (gTup (gCons (gC (.str "build")) (gCons (gBin dIdx (gVar 2) (gC (.int 1))) (gCons (gCall fTuple (gCons (gVar 3) gNil)) gNil)))) (gC .non)))
  mNil))
  mNil)
  (mSeq (mIf (gOr (gTest (gBin dDout (gBin dIdx (gVar 2) (gC (.int 0))) (gVar 1))) (gTest (gBin dNe (gCall fLen (gCons (gVar 2) gNil)) (gBin dAdd (gCall fLen (gCons (gBin dDix (gVar 1) (gBin dIdx (gVar 2) (gC (.int 0)))) gNil)) (gC (.int 1))))))
  (mSeq (mRet (gC .non))
  mNil)
  mNil)
  (mSeq (mSet 5 (gTup (gCons (gBin dIdx (gVar 2) (gC (.int 0))) gNil)))
  (mSeq (mFor (gZipS (gBin dDix (gVar 1) (gBin dIdx (gVar 2) (gC (.int 0)))) (gSl (gVar 2) (gPart (gC (.int 1))) gNoPart)) (.tup [6, 4]) b_reads_L_1)
  (mSeq (mRet (gVar 5))
  mNil))))))))
def f_reads_L : List D → R D := runF m_reads_L 7

def m_bent_text_L : Sl → O := (mSeq (mSet 2 (gC (.str " \n-+.0AZaz9_!~#:;")))
  (mSeq (mSet 3 (gSplit (gVar 0) (gC (.str " "))))
  (mSeq (mSet 4 (gBin dMod (gBin dIdx (gVar 1) (gC (.int 1))) (gBin dAdd (gCall fLen (gCons (gVar 0) gNil)) (gC (.int 1)))))
  (mSeq (mSet 5 (gBin dMod (gBin dIdx (gVar 1) (gC (.int 1))) (gCall fLen (gCons (gVar 3) gNil))))
  (mSeq (mSet 6 (gBin dIdx (gVar 2) (gBin dMod (gBin dIdx (gVar 1) (gC (.int 2))) (gCall fLen (gCons (gVar 2) gNil)))))
  (mSeq (mSet 7 (gLst (gCons (gC (.str "-0")) (gCons (gC (.str "00")) (gCons (gC (.str "-")) (gCons (gC (.str "+3")) (gCons (gC (.str "007")) (gCons (gC (.str "-01")) (gCons (gC (.str "")) (gCons (gBin dMulS (gC (.str "1")) (gC (.int 61))) (gCons (gBin dAdd (gC (.str "-")) (gBin dMulS (gC (.str "9")) (gC (.int 61)))) (gCons (gC (.str "a1")) (gCons (gC (.str "abcdefghi")) (gCons (gC (.str "A")) (gCons (gC (.str "walk")) (gCons (gC (.str "0")) (gCons (gC (.str "-7")) gNil)))))))))))))))))
  (mSeq (mSet 8 (gBin dMod (gBin dIdx (gVar 1) (gC (.int 0))) (gC (.int 8))))
  (mSeq (mIf (gTest (gBin dEq (gVar 8) (gC (.int 0))))
  (mSeq (mRet (gBin dAdd (gBin dAdd (gSl (gVar 0) gNoPart (gPart (gVar 4))) (gVar 6)) (gSl (gVar 0) (gPart (gVar 4)) gNoPart)))
  mNil)
  mNil)
  (mSeq (mIf (gTest (gBin dEq (gVar 8) (gC (.int 1))))
  (mSeq (mRet (gBin dAdd (gSl (gVar 0) gNoPart (gPart (gVar 4))) (gSl (gVar 0) (gPart (gBin dAdd (gVar 4) (gC (.int 1)))) gNoPart)))
  mNil)
  mNil)
  (mSeq (mIf (gTest (gBin dEq (gVar 8) (gC (.int 2))))
  (mSeq (mRet (gBin dAdd (gBin dAdd (gSl (gVar 0) gNoPart (gPart (gVar 4))) (gVar 6)) (gSl (gVar 0) (gPart (gBin dAdd (gVar 4) (gC (.int 1)))) gNoPart)))
  mNil)
  mNil)
  (mSeq (mIf (gTest (gBin dEq (gVar 8) (gC (.int 3))))
  (mSeq (mRet (gJoin (gC (.str " ")) (gBin dAdd (gSl (gVar 3) gNoPart (gPart (gVar 5))) (gSl (gVar 3) (gPart (gBin dAdd (gVar 5) (gC (.int 1)))) gNoPart))))
  mNil)
  mNil)
  (mSeq (mIf (gTest (gBin dEq (gVar 8) (gC (.int 4))))
  (mSeq (mRet (gJoin (gC (.str " ")) (gBin dAdd (gBin dAdd (gSl (gVar 3) gNoPart (gPart (gVar 5))) (gLst (gCons (gBin dIdx (gVar 3) (gVar 5)) (gCons (gBin dIdx (gVar 3) (gVar 5)) gNil)))) (gSl (gVar 3) (gPart (gBin dAdd (gVar 5) (gC (.int 1)))) gNoPart))))
  mNil)
  mNil)
  (mSeq (mIf (gTest (gBin dEq (gVar 8) (gC (.int 5))))
  (mSeq (mRet (gJoin (gC (.str " ")) (gBin dAdd (gBin dAdd (gSl (gVar 3) gNoPart (gPart (gVar 5))) (gLst (gCons (gBin dIdx (gVar 7) (gBin dMod (gBin dIdx (gVar 1) (gC (.int 2))) (gC (.int 15)))) gNil))) (gSl (gVar 3) (gPart (gBin dAdd (gVar 5) (gC (.int 1)))) gNoPart))))
  mNil)
  mNil)
  (mSeq (mRet (gBin dIdx (gLst (gCons (gBin dAdd (gVar 0) (gC (.str " "))) (gCons (gBin dAdd (gC (.str " ")) (gVar 0)) (gCons (gUn (dRepl " " "  ") (gVar 0)) (gCons (gBin dAdd (gVar 0) (gC (.str "\n"))) (gCons (gC (.str "")) (gCons (gUn dUpper (gVar 0)) (gCons (gVar 0) gNil)))))))) (gBin dMod (gBin dIdx (gVar 1) (gC (.int 2))) (gC (.int 7)))))
  mNil))))))))))))))
def f_bent_text_L : List D → R D := runF m_bent_text_L 7

def m_why_text_L : Sl → O := (mSeq (mSet 1 (gTup (gCons (gC (.str "told")) (gCons (gC .non) gNil))))
  (mSeq (mTry (mSeq (mSet 1 (gTup (gCons (gC (.str "told")) (gCons (gCall f_read_deed (gCons (gVar 0) gNil)) gNil))))
  mNil) [⟨"BadText", some 2, fun x => (mSeq (mSet 1 (gTup (gCons (gC (.str "BadText")) (gCons (gAt 2 x) gNil))))
  mNil)⟩,
  ⟨"CreelError", none, fun x => (mSeq (mSet 1 (gTup (gCons (gC (.str "other")) (gCons (gC (.int 0)) gNil))))
  mNil)⟩])
  (mSeq (mRet (gVar 1))
  mNil)))
def f_why_text_L : List D → R D := runF m_why_text_L 2

def b_law_1 : Sl → O := (mSeq (mSet 3 (gSl (gVar 1) (gPart (gBin dMul (gC (.int 34)) (gVar 2))) gNoPart))
  (mSeq (mSet 4 (gCall f_text_L (gCons (gCall f_any_deed_L (gCons (gVar 3) gNil)) gNil)))
  (mSeq (mSet 4 (gCall f_bent_text_L (gCons (gVar 4) (gCons (gSl (gVar 3) (gPart (gC (.int 28))) gNoPart) gNil))))
  (mSeq (mIf (gTest (gBin dEq (gBin dMod (gBin dIdx (gVar 3) (gC (.int 31))) (gC (.int 3))) (gC (.int 0))))
  (mSeq (mSet 4 (gCall f_bent_text_L (gCons (gVar 4) (gCons (gSl (gVar 3) (gPart (gC (.int 30))) gNoPart) gNil))))
  mNil)
  mNil)
  (mSeq (mSet 5 (gCall f_reads_L (gCons (gVar 4) gNil)))
  (mSeq (mSet 6 (gIf (gTest (gUn dIsN (gVar 5))) (gTup (gCons (gC (.str "BadText")) (gCons (gC (.int 0)) gNil))) (gTup (gCons (gC (.str "told")) (gCons (gVar 5) gNil)))))
  (mSeq (mIf (gNot (gTest (gCall (f_same_L 8) (gCons (gCall f_why_text_L (gCons (gVar 4) gNil)) (gCons (gVar 6) gNil)))))
  (mSeq (mRet (gC (.bl false)))
  mNil)
  mNil)
  mNil)))))))
def m_law : Sl → O := (mSeq (mSet 1 (gCall f_numbers_L (gCons (gVar 0) (gCons (gC (.int 700)) gNil))))
  (mSeq (mFor (gRange1 (gC (.int 20))) (.one 2) b_law_1)
  (mSeq (mRet (gC (.bl true)))
  mNil)))
def f_law : List D → R D := runF m_law 6

theorem dIdx_list {ds : List D} {i : Nat} {d : D} (h : ds[i]? = some d) : dIdx (.lst ds) (.int i) = .ok d := by
  dsimp only [dIdx]
  rw [atI_nat h]
/-- a list of drawn numbers -/
def Drawn (l : List Int) : Prop := ∀ d ∈ l, 0 ≤ d ∧ d < 9967
theorem drawn_get {l : List Int} (h : Drawn l) {i : Nat} (hi : i < l.length) {j : Int} (hj : j = (i : Int)) : ∃ v : Int, 0 ≤ v ∧ v < 9967 ∧ dIdx (.lst (l.map D.int)) (.int j) = .ok (.int v) := by
  subst hj
  refine ⟨l[i], (h _ (List.getElem_mem hi)).1, (h _ (List.getElem_mem hi)).2, dIdx_list ?_⟩
  rw [List.getElem?_map, List.getElem?_eq_getElem hi]
  rfl
theorem ten_loop : ∀ (l : List D) (n : D) (v : Int) (k : Option D), ∃ k', forL (.one 2) b_ten_L_1 l [some n, some (.int v), k] = .nx [some n, some (.int (v * 10 ^ l.length)), k']
  | [], n, v, k => ⟨k, by simp [forL]⟩
  | d :: l, n, v, k => by
    obtain ⟨k', e⟩ := ten_loop l n (v * 10) (some d)
    have m : mulOk v 10 = true := mulOk_right (by decide) (by decide)
    refine ⟨k', ?_⟩
    have b : b_ten_L_1 [some n, some (.int v), some d] = .nx [some n, some (.int (v * 10)), some d] := by simp [b_ten_L_1, m]
    have p : v * 10 * 10 ^ l.length = v * 10 ^ (l.length + 1) := by
      rw [Int.pow_succ, Int.mul_assoc, Int.mul_comm 10]
    rw [p] at e
    show (match b_ten_L_1 [some n, some (.int v), some d] with
      | .nx r' => forL (.one 2) b_ten_L_1 l r'
      | o => o) = _
    rw [b, List.length_cons]
    exact e
theorem ten_ok (n : Nat) (hn : n ≤ 10000) : f_ten_L [.int n] = .ok (.int (10 ^ n)) := by
  have r : dRange1 (.int (n : Int)) = _ := dRange1_nat (by omega)
  obtain ⟨k', e⟩ := ten_loop ((List.range n).map fun (i : Nat) => D.int i) (.int n) 1 none
  rw [List.length_map, List.length_range, Int.one_mul] at e
  simp [f_ten_L, m_ten_L, r, e]

theorem any_num (l : List Int) (h : Drawn l) (hl : 3 ≤ l.length) : ∃ n : Int, f_any_number_L [.lst (l.map D.int)] = .ok (.int n) ∧ n.natAbs < 10 ^ 60 := by
  obtain ⟨v0, p0, q0, g0⟩ := drawn_get h (i := 0) (by omega) (j := 0) rfl
  obtain ⟨v1, p1, q1, g1⟩ := drawn_get h (i := 1) (by omega) (j := 1) rfl
  obtain ⟨v2, p2, q2, g2⟩ := drawn_get h (i := 2) (by omega) (j := 2) rfl
  have f3 := fmod_pos (a := v0) (b := 3) (by decide)
  have f10 := fmod_pos (a := v0) (b := 10) (by decide)
  have f57 := fmod_pos (a := v2) (b := 57) (by decide)
  have et : f_ten_L [.int (v2.fmod 57)] = .ok (.int (10 ^ (v2.fmod 57).toNat)) := by
    have := ten_ok (v2.fmod 57).toNat (by omega)
    rwa [Int.toNat_of_nonneg f57.1] at this
  have T0 : (0 : Int) < 10 ^ (v2.fmod 57).toNat := Int.pow_pos (by decide)
  have T1 : (10 : Int) ^ (v2.fmod 57).toNat ≤ 10 ^ 56 := by
    have z : (10 : Nat) ^ (v2.fmod 57).toNat ≤ 10 ^ 56 := Nat.pow_le_pow_right (by decide) (by omega)
    have z2 : (((10 : Nat) ^ (v2.fmod 57).toNat : Nat) : Int) ≤ ((10 ^ 56 : Nat) : Int) := Int.ofNat_le.mpr z
    rw [Int.natCast_pow, Int.natCast_pow] at z2
    exact z2
  have m1 : mulOk v1 (10 ^ (v2.fmod 57).toNat) = true := mulOk_left (by omega) (by omega)
  have m2 : mulOk (v0.fmod 3 - 1) (v1 * 10 ^ (v2.fmod 57).toNat + v0.fmod 10) = true := mulOk_left (by omega) (by omega)
  refine ⟨(v0.fmod 3 - 1) * (v1 * 10 ^ (v2.fmod 57).toNat + v0.fmod 10), ?_, ?_⟩
  · generalize (10 : Int) ^ (v2.fmod 57).toNat = T at *
    generalize l.map D.int = ll at *
    simp [f_any_number_L, m_any_number_L, g0, g1, g2, et, m1, m2, outF, -dIdx]
  · generalize (10 : Int) ^ (v2.fmod 57).toNat = T at *
    have b : v1 * T ≤ 9966 * 10 ^ 56 := Int.mul_le_mul (by omega) T1 (by omega) (by omega)
    have c : 0 ≤ v1 * T := Int.mul_nonneg p1 (by omega)
    have e60 : (10 : Nat) ^ 60 = 10000 * 10 ^ 56 := by decide +kernel
    have e56 : ((10 : Int) ^ 56) = ((10 ^ 56 : Nat) : Int) := by rw [Int.natCast_pow]; rfl
    rw [e60]
    rw [e56] at b
    have z : (10 : Nat) < 10 ^ 56 := by decide +kernel
    generalize (10 : Nat) ^ 56 = U at *
    generalize v1 * T = W at *
    rcases (by omega : v0.fmod 3 = 0 ∨ v0.fmod 3 = 1 ∨ v0.fmod 3 = 2) with e | e | e <;> rw [e] <;> omega
theorem joinL_nil : ∀ (xs : List (List Nat)), TL.joinL [] xs = xs.flatten
  | [] => rfl
  | [x] => by simp [TL.joinL]
  | x :: y :: r => by
    show x ++ ([] ++ TL.joinL [] (y :: r)) = _
    rw [joinL_nil (y :: r)]
    simp
theorem flat_one (G : Int → Nat) : ∀ q : List Int, (q.map fun a => [G a]).flatten = q.map G
  | [] => rfl
  | a :: q => by
    rw [List.map_cons, List.flatten_cons, flat_one G q]
    rfl
def letters : Str := "abcdefghijklmnopqrstuvwxyz"
theorem letter_at : ∀ k : Nat, k < 26 → ∃ c, atI ("abcdefghijklmnopqrstuvwxyz" : Str).cps.toList (k : Int) = some c ∧ c ∈ letters.cps.toList := fun k hk => by
  have h : ("abcdefghijklmnopqrstuvwxyz" : Str).cps.toList.length = 26 := by decide +kernel
  refine ⟨("abcdefghijklmnopqrstuvwxyz" : Str).cps.toList[k]'(by omega), atI_nat (List.getElem?_eq_getElem (by omega)), List.getElem_mem _⟩
theorem sum_len : ∀ (ys : List Str), (∀ y ∈ ys, y.length ≤ 2000) → (ys.map (·.length)).sum ≤ ys.length * 2000
  | [], _ => by simp
  | y :: ys, h => by
    have a := h y List.mem_cons_self
    have b := sum_len ys fun z hz => h z (List.mem_cons_of_mem _ hz)
    rw [List.map_cons, List.sum_cons, List.length_cons]
    omega
abbrev Run := Bool × List Int
/-- one run more, joined to the last when alike -/
def jn (f : List Run) (r : Run) : List Run :=
  if r.2 = [] then f else match f.getLast? with
    | some l => if l.1 = r.1 then f.dropLast ++ [(r.1, l.2 ++ r.2)] else f ++ [r]
    | none => if r.1 then [r] else []
def nameOk (x : Str) : Bool := decide (1 ≤ x.length ∧ x.length ≤ 8) && x.cps.toList.all fun c => decide (c ∈ letters.cps.toList)
/-- alike as far as it matters -/
def Rc (N : Nat) (a b : List Int) : Prop := a = b ∨ ∃ C a' b', a = C ++ a' ∧ b = C ++ b' ∧ N ≤ C.length
theorem Rc.drop {N k : Nat} {a b : List Int} (h : Rc N a b) (l : k ≤ N) : Rc (N - k) (a.drop k) (b.drop k) := by
  rcases h with h | ⟨C, a', b', h1, h2, h3⟩
  · exact .inl (by rw [h])
  · refine .inr ⟨C.drop k, a', b', ?_, ?_, by rw [List.length_drop]; omega⟩
    · rw [h1, List.drop_append_of_le_length (by omega)]
    · rw [h2, List.drop_append_of_le_length (by omega)]
theorem any_word (l : List Int) (h : Drawn l) (hl : 9 ≤ l.length) : ∃ x : Str, f_word_L [.lst (l.map D.int)] = .ok (.str x) ∧ nameOk x = true := by
  obtain ⟨v0, p0, q0, g0⟩ := drawn_get h (i := 0) (by omega) (j := 0) rfl
  have f8 := fmod_pos (a := v0) (b := 8) (by decide)
  obtain ⟨m, em⟩ : ∃ m : Nat, v0.fmod 8 = (m : Int) := ⟨(v0.fmod 8).toNat, by rw [Int.toNat_of_nonneg f8.1]⟩
  have c1 : cutL (l.map D.int) (some 1) (some (2 + v0.fmod 8)) = ((l.drop 1).take (m + 1)).map D.int := by
    unfold cutL
    rw [em, show (2 : Int) + (m : Int) = ((m + 2 : Nat) : Int) by omega, show (1 : Int) = ((1 : Nat) : Int) from rfl, HT.sIx_nat, HT.sIx_nat, List.length_map, Nat.min_eq_left (show 1 ≤ l.length by omega), Nat.min_eq_left (show m + 2 ≤ l.length by omega), List.map_take, List.map_drop]
    congr 1
  have dr : ∀ a ∈ (l.drop 1).take (m + 1), 0 ≤ a := fun a ha => (h a (List.mem_of_mem_drop (List.mem_of_mem_take ha))).1
  have ln : ((l.drop 1).take (m + 1)).length = m + 1 := by rw [List.length_take, List.length_drop]; omega
  generalize (l.drop 1).take (m + 1) = q at *
  have pick : ∃ G : Int → Nat, ∀ a ∈ q, atI ("abcdefghijklmnopqrstuvwxyz" : Str).cps.toList (a.fmod 26) = some (G a) ∧ G a ∈ letters.cps.toList := by
    refine ⟨fun a => (atI ("abcdefghijklmnopqrstuvwxyz" : Str).cps.toList (a.fmod 26)).getD 0, fun a ha => ?_⟩
    have f := fmod_pos (a := a) (b := 26) (by decide)
    obtain ⟨c, e, mem⟩ := letter_at (a.fmod 26).toNat (by omega)
    rw [Int.toNat_of_nonneg f.1] at e
    show _ = some ((atI _ _).getD 0) ∧ (atI _ _).getD 0 ∈ _
    rw [e]
    exact ⟨rfl, mem⟩
  obtain ⟨G, hG⟩ := pick
  have sz : ("abcdefghijklmnopqrstuvwxyz" : Str).length ≤ szL := le_szL (by decide +kernel)
  have cp : gComp (gIter (gSl (gVar 0) (gPart (gC (.int 1))) (gPart (gBin dAdd (gC (.int 2)) (gBin dMod (gBin dIdx (gVar 0) (gC (.int 0))) (gC (.int 8))))))) (.one 1) [1] gYes (gBin dIdx (gC (.str "abcdefghijklmnopqrstuvwxyz")) (gBin dMod (gVar 1) (gC (.int 26)))) [some (.lst (l.map D.int)), none] = .ok (.lst (q.map fun a => D.str ⟨#[G a]⟩)) := by
    refine gComp_map (l := q) (F := D.int) (G := fun a => D.str ⟨#[G a]⟩) ?_ fun a ha => ?_
    · generalize l.map D.int = ll at *
      simp [g0, c1, -dIdx]
    · have ix : dIdx (.str "abcdefghijklmnopqrstuvwxyz") (.int (a.fmod 26)) = .ok (.str ⟨#[G a]⟩) := by
        show (if ("abcdefghijklmnopqrstuvwxyz" : Str).length ≤ szL then (match atI ("abcdefghijklmnopqrstuvwxyz" : Str).cps.toList (a.fmod 26) with
          | some c => R.ok (D.str ⟨#[c]⟩)
          | none => .stuck) else .stuck) = _
        rw [if_pos sz, (hG a ha).1]
      simp [gTurn, ix, -dIdx]
  have ss : strsOf (q.map fun a => D.str ⟨#[G a]⟩) = some (q.map fun a => (⟨#[G a]⟩ : Str)) := by
    have z := strsOf_map (q.map fun a => (⟨#[G a]⟩ : Str))
    rwa [List.map_map] at z
  have tlj : TL.tl (Txt.join "" (q.map fun a => (⟨#[G a]⟩ : Str))) = q.map G := by
    rw [TL.join_eq, TL.tl_join, show TL.tl ("" : Str) = [] from by decide +kernel, joinL_nil, List.map_map]
    have : (TL.tl ∘ fun a => (⟨#[G a]⟩ : Str)) = fun a => [G a] := rfl
    rw [this]
    exact flat_one G q
  refine ⟨Txt.join "" (q.map fun a => (⟨#[G a]⟩ : Str)), ?_, ?_⟩
  · have jn : dJoin (.str "") (.lst (q.map fun a => D.str ⟨#[G a]⟩)) = .ok (.str (Txt.join "" (q.map fun a => (⟨#[G a]⟩ : Str)))) := by
      unfold dJoin
      dsimp only
      rw [ss]
      dsimp only
      rw [if_pos (le_szL ?_)]
      rw [show ("" : Str).length = 0 from by decide +kernel, Nat.mul_zero, Nat.add_zero, List.map_map]
      have s := sum_len (q.map fun a => (⟨#[G a]⟩ : Str)) fun y hy => by
        obtain ⟨a, _, rfl⟩ := List.mem_map.mp hy
        show (1 : Nat) ≤ 2000
        decide
      rw [List.map_map, List.length_map] at s
      omega
    generalize (q.map fun a => D.str ⟨#[G a]⟩) = Q at *
    generalize Txt.join "" (q.map fun a => (⟨#[G a]⟩ : Str)) = J at *
    generalize l.map D.int = ll at *
    simp [f_word_L, m_word_L, cp, jn, outF]
  · unfold nameOk
    have e1 : (Txt.join "" (q.map fun a => (⟨#[G a]⟩ : Str))).length = m + 1 := by rw [TL.len_tl, tlj, List.length_map, ln]
    rw [e1, decide_eq_true (show 1 ≤ m + 1 ∧ m + 1 ≤ 8 by omega), Bool.true_and]
    show (TL.tl (Txt.join "" (q.map fun a => (⟨#[G a]⟩ : Str)))).all _ = true
    rw [tlj, List.all_eq_true]
    intro c hc
    obtain ⟨a, ha, rfl⟩ := List.mem_map.mp hc
    exact decide_eq_true (hG a ha).2

def W9 : List Str := ["build", "shut", "walk", "put", "take", "mirror", "lay", "late", "strike"]
theorem w9_ok : dSplit (.str "build shut walk put take mirror lay late strike") (.str " ") = .ok (.lst (W9.map D.str)) := by
  have e : Txt.split "build shut walk put take mirror lay late strike" " " = W9 := by decide +kernel
  unfold dSplit
  dsimp only
  rw [if_pos ⟨by decide +kernel, le_szL (by decide +kernel)⟩, e]
theorem cutL_fromG {α : Type} {xs : List α} {k : Nat} {i : Int} (hi : i = (k : Int) := by rfl) : cutL xs (some i) none = xs.drop k := by
  by_cases h : k ≤ xs.length
  · exact cutL_from h hi
  · subst hi
    unfold cutL
    rw [HT.sIx_nat, HT.sIx_none, Nat.min_eq_right (by omega), Nat.sub_self, List.take_zero, List.drop_eq_nil_of_le (by omega)]
inductive Part where
  | n (i : Int)
  | x (s : Str)
inductive Deed where
  | build (x : Str) (r : List Int)
  | shut (x : Str)
  | walk (x : Str) (c n : Int)
  | put (x : Str) (p : Int)
  | take (x : Str) (p : Int)
  | mirror (x : Str)
  | lay (x y : Str) (g : Int)
  | late (x : Str) (a c n : Int)
  | strike (x : Str) (a : Int)
def partsOf : Deed → List Part
  | .build _ r => r.map .n
  | .shut _ => []
  | .walk _ c n => [.n c, .n n]
  | .put _ p => [.n p]
  | .take _ p => [.n p]
  | .mirror _ => []
  | .lay _ y g => [.x y, .n g]
  | .late _ a c n => [.n a, .n c, .n n]
  | .strike _ a => [.n a]
/-- can be read -/
def PartR : Part → Prop
  | .n i => i.natAbs < 10 ^ 60
  | .x s => nameOk s = true
def roadOf : Deed → Str
  | .build x _ => x
  | .shut x => x
  | .walk x _ _ => x
  | .put x _ => x
  | .take x _ => x
  | .mirror x => x
  | .lay x _ _ => x
  | .late x _ _ _ => x
  | .strike x _ => x
structure ReadOk (d : Deed) : Prop where
  road : nameOk (roadOf d) = true
  len : (partsOf d).length ≤ 500
  all : ∀ p ∈ partsOf d, PartR p
def deedD : Deed → D
  | .build x r => .tup [.str "build", .str x, .tup (r.map D.int)]
  | .shut x => .tup [.str "shut", .str x]
  | .walk x c n => .tup [.str "walk", .str x, .int c, .int n]
  | .put x p => .tup [.str "put", .str x, .int p]
  | .take x p => .tup [.str "take", .str x, .int p]
  | .mirror x => .tup [.str "mirror", .str x]
  | .lay x y g => .tup [.str "lay", .str x, .str y, .int g]
  | .late x a c n => .tup [.str "late", .str x, .int a, .int c, .int n]
  | .strike x a => .tup [.str "strike", .str x, .int a]
theorem eq_str (C E : Str) (h1 : (PyData.str C).canLay0 = true := by decide +kernel) (h2 : (PyData.str E).canLay0 = true := by decide +kernel) : dEq (.str C) (.str E) = .ok (.bl (C == E)) := by
  have a : shp (.str C) = true := by
    unfold shp SeqAt.shaped
    show ((PyData.str C).canLay0 && _) = true
    rw [h1]
    rfl
  have b : shp (.str E) = true := by
    unfold shp SeqAt.shaped
    show ((PyData.str E).canLay0 && _) = true
    rw [h2]
    rfl
  unfold dEq
  rw [a, b]
  rfl

theorem Rc.symm {N : Nat} {a b : List Int} (h : Rc N a b) : Rc N b a := by
  rcases h with h | ⟨C, a', b', h1, h2, h3⟩
  · exact .inl h.symm
  · exact .inr ⟨C, b', a', h2, h1, h3⟩
theorem any_deed (l : List Int) (h : Drawn l) (hl : 30 ≤ l.length) : ∃ d : Deed, f_any_deed_L [.lst (l.map D.int)] = .ok (deedD d) ∧ ReadOk d ∧ (partsOf d).length ≤ 6 := by
  obtain ⟨v0, p0, q0, g0⟩ := drawn_get h (i := 0) (by omega) (j := 0) rfl
  obtain ⟨v1, p1, q1, g1⟩ := drawn_get h (i := 1) (by omega) (j := 1) rfl
  have f9 := fmod_pos (a := v0) (b := 9) (by decide)
  have f6 := fmod_pos (a := v1) (b := 6) (by decide)
  have dd : ∀ k, Drawn (l.drop k) := fun k d hd => h d (List.mem_of_mem_drop hd)
  have cut : ∀ k : Nat, cutL (l.map D.int) (some (k : Int)) none = (l.drop k).map D.int := fun k => by rw [cutL_fromG (k := k) rfl, List.map_drop]
  obtain ⟨x, ex, nx⟩ := any_word (l.drop 1) (dd 1) (by rw [List.length_drop]; omega)
  obtain ⟨y, ey, ny⟩ := any_word (l.drop 20) (dd 20) (by rw [List.length_drop]; omega)
  have ev : ∀ k, k < 6 → ∃ n : Int, f_any_number_L [.lst ((l.drop (10 + 3 * k)).map D.int)] = .ok (.int n) ∧ n.natAbs < 10 ^ 60 := fun k hk => any_num _ (dd _) (by rw [List.length_drop]; omega)
  obtain ⟨N, hN⟩ : ∃ N : Nat → Int, ∀ k, k < 6 → f_any_number_L [.lst ((l.drop (10 + 3 * k)).map D.int)] = .ok (.int (N k)) ∧ (N k).natAbs < 10 ^ 60 := ⟨fun k => if hk : k < 6 then Classical.choose (ev k hk) else 0, fun k hk => by
    dsimp only
    rw [dif_pos hk]
    exact Classical.choose_spec (ev k hk)⟩
  have cp : ∀ (gi : Sl → R (List D)) (m : Nat) (a b c : Option D), m ≤ 6 → gi [some (.lst (l.map D.int)), a, b, c, none, none] = .ok ((List.range m).map fun (i : Nat) => D.int i) → gComp gi (.one 4) [4] gYes (gCall f_any_number_L (VL.gCons (gSl (gVar 0) (gPart (gBin dAdd (gC (.int 10)) (gBin dMul (gC (.int 3)) (gVar 4)))) gNoPart) VL.gNil)) [some (.lst (l.map D.int)), a, b, c, none, none] = .ok (.lst ((List.range m).map fun k => D.int (N k))) := fun gi m a b c hm hg => by
    refine gComp_map (l := List.range m) (F := fun (i : Nat) => D.int i) (G := fun k => D.int (N k)) hg fun k hk => ?_
    have hk' : k < 6 := by have := List.mem_range.mp hk; omega
    have z := (hN k hk').1
    have cc := cut (10 + 3 * k)
    have ms : mulOk 3 (k : Int) = true := mulOk_left (by decide) (by decide)
    rw [show ((10 + 3 * k : Nat) : Int) = 10 + 3 * (k : Int) by omega] at cc
    generalize (l.drop (10 + 3 * k)).map D.int = lk at *
    generalize l.map D.int = ll at *
    simp [gTurn, ms, cc, z]
  have r3 : dRange1 (.int 3) = .ok ((List.range 3).map fun (i : Nat) => D.int i) := dRange1_nat (n := 3) (by decide)
  obtain ⟨m, em⟩ : ∃ m : Nat, v1.fmod 6 = (m : Int) := ⟨(v1.fmod 6).toNat, by rw [Int.toNat_of_nonneg f6.1]⟩
  have rm : dRange1 (.int (m : Nat)) = .ok ((List.range m).map fun (i : Nat) => D.int i) := dRange1_nat (n := m) (by omega)
  have e3 : ((List.range 3).map fun k => D.int (N k)) = [.int (N 0), .int (N 1), .int (N 2)] := rfl
  have s3 := fun a b c => cp (gRange1 (gC (.int 3))) 3 a b c (by decide) (by simp [r3])
  have sm := fun a b c => cp (gRange1 (gBin dMod (gBin dIdx (gVar 0) (gC (.int 1))) (gC (.int 6)))) m a b c (by omega) (by
    generalize l.map D.int = ll at *
    simp [g1, em, rm, -dIdx])
  have c1 : cutL (l.map D.int) (some 1) none = (l.drop 1).map D.int := cut 1
  have c20 : cutL (l.map D.int) (some 20) none = (l.drop 20).map D.int := cut 20
  have wo := w9_ok
  have z1 : (1 : Nat) ≤ szL := le_szL (by decide)
  have z2 : (2 : Nat) ≤ szL := le_szL (by decide)
  have z3 : (3 : Nat) ≤ szL := le_szL (by decide)
  have z4 : (4 : Nat) ≤ szL := le_szL (by decide)
  have n0 := (hN 0 (by decide)).2
  have n1 := (hN 1 (by decide)).2
  have n2 := (hN 2 (by decide)).2
  have qbb : dEq (.str "build") (.str "build") = .ok (.bl true) := by rw [eq_str "build" "build"]; simp
  have qll : dEq (.str "lay") (.str "lay") = .ok (.bl true) := by rw [eq_str "lay" "lay"]; simp
  have qb : ∀ w : Str, (PyData.str w).canLay0 = true → (w == "build") = false → dEq (.str w) (.str "build") = .ok (.bl false) := fun w h1 h2 => by rw [eq_str w "build" h1, h2]
  have ql : ∀ w : Str, (PyData.str w).canLay0 = true → (w == "lay") = false → dEq (.str w) (.str "lay") = .ok (.bl false) := fun w h1 h2 => by rw [eq_str w "lay" h1, h2]
  have iw : ∀ k : Nat, k < 9 → ∀ w, W9[k]? = some w → dIdx (.lst (W9.map D.str)) (.int (k : Nat)) = .ok (.str w) := fun k _ w e => dIdx_list (by rw [List.getElem?_map, e]; rfl)
  have T : List Str := []
  have tab : ∀ (w : Str) (k : Int), valD (dispD ["shut", "walk", "put", "take", "mirror", "late", "strike"] [.int 0, .int 2, .int 1, .int 1, .int 0, .int 3, .int 1]) (.inr w) = some (.int k) → dDix (.dct (dispD ["shut", "walk", "put", "take", "mirror", "late", "strike"] [.int 0, .int 2, .int 1, .int 1, .int 0, .int 3, .int 1])) (.str w) = .ok (.int k) := fun w k e => by
    show (match valD _ (.inr w) with
      | some d => R.ok d
      | none => .stuck) = _
    rw [e]
  -- the words of the table
  have other : ∀ (k : Nat) (w : Str) (n : Nat) (d : Deed), v0.fmod 9 = (k : Int) → k < 9 → W9[k]? = some w → (PyData.str w).canLay0 = true → (w == "build") = false → (w == "lay") = false → valD (dispD ["shut", "walk", "put", "take", "mirror", "late", "strike"] [.int 0, .int 2, .int 1, .int 1, .int 0, .int 3, .int 1]) (.inr w) = some (.int (n : Nat)) → n ≤ 3 →
      deedD d = .tup ([.str w, .str x] ++ [D.int (N 0), .int (N 1), .int (N 2)].take n) → f_any_deed_L [.lst (l.map D.int)] = .ok (deedD d) := fun k w n d ek hk ew h1 h2 h3 ht hn ed => by
    have i := iw k hk w ew
    have b := qb w h1 h2
    have c := ql w h1 h3
    have t := tab w _ ht
    have ct : cutL [D.int (N 0), .int (N 1), .int (N 2)] none (some (n : Int)) = [D.int (N 0), .int (N 1), .int (N 2)].take n := cutL_to (k := n) rfl
    have tz : 2 + ([D.int (N 0), .int (N 1), .int (N 2)].take n).length ≤ szL := le_szL (by rw [List.length_take]; simp; omega)
    have ad : dAdd (.tup [.str w, .str x]) (.tup ([D.int (N 0), .int (N 1), .int (N 2)].take n)) = .ok (deedD d) := by
      show (if [D.str w, D.str x] ≠ [] ∧ 2 + ([D.int (N 0), .int (N 1), .int (N 2)].take n).length ≤ szL then R.ok (D.tup _) else .stuck) = _
      rw [if_pos ⟨by simp, tz⟩, ed]
    have s3' := s3 (some (.str w)) (some (.str x)) none
    rw [e3] at s3'
    have ft : fTuple [.lst ([D.int (N 0), .int (N 1), .int (N 2)].take n)] = .ok (.tup ([D.int (N 0), .int (N 1), .int (N 2)].take n)) := rfl
    clear tab cp s3 sm iw qb ql hN ev
    rw [ek.symm] at i
    generalize [D.int (N 0), .int (N 1), .int (N 2)].take n = V at *
    generalize [D.int (N 0), .int (N 1), .int (N 2)] = U at *
    generalize hTB : dispD ["shut", "walk", "put", "take", "mirror", "late", "strike"] [.int 0, .int 2, .int 1, .int 1, .int 0, .int 3, .int 1] = TB at *
    generalize W9.map D.str = WD at *
    generalize (l.drop 1).map D.int = l1 at *
    generalize l.map D.int = ll at *
    generalize deedD d = Q at *
    simp [f_any_deed_L, m_any_deed_L, wo, g0, i, c1, ex, s3', b, c, hTB, t, ct, ft, ad, z2, outF, -dIdx, -dAdd, -dDix, -fTuple]
  have cases9 : v0.fmod 9 = 0 ∨ v0.fmod 9 = 1 ∨ v0.fmod 9 = 2 ∨ v0.fmod 9 = 3 ∨ v0.fmod 9 = 4 ∨ v0.fmod 9 = 5 ∨ v0.fmod 9 = 6 ∨ v0.fmod 9 = 7 ∨ v0.fmod 9 = 8 := by omega
  have o2 : ∀ p : Part, p ∈ [Part.n (N 0), .n (N 1), .n (N 2)] → PartR p := fun p hp => by
    simp only [List.mem_cons, List.not_mem_nil, or_false] at hp
    rcases hp with e | e | e <;> subst e
    · exact n0
    · exact n1
    · exact n2
  rcases cases9 with e | e | e | e | e | e | e | e | e
  · refine ⟨.build x ((List.range m).map N), ?_, ⟨nx, by simp [partsOf]; omega, fun p hp => ?_⟩, by simp [partsOf]; omega⟩
    · have i := iw 0 (by decide) "build" rfl
      rw [show ((0 : Nat) : Int) = v0.fmod 9 from e.symm] at i
      have s3' := s3 (some (.str "build")) (some (.str x)) none
      have sm' := sm (some (.str "build")) (some (.str x)) (some (.lst ((List.range 3).map fun k => D.int (N k))))
      have mm : ((List.range m).map fun k => D.int (N k)) = ((List.range m).map N).map D.int := by rw [List.map_map]; rfl
      rw [mm] at sm'
      have ft : fTuple [.lst (((List.range m).map N).map D.int)] = .ok (.tup (((List.range m).map N).map D.int)) := rfl
      unfold deedD
      dsimp only
      clear tab cp s3 sm iw qb ql hN ev other
      generalize ((List.range m).map N).map D.int = V at *
      generalize ((List.range 3).map fun k => D.int (N k)) = U at *
      generalize W9.map D.str = WD at *
      generalize (l.drop 1).map D.int = l1 at *
      generalize l.map D.int = ll at *
      simp [f_any_deed_L, m_any_deed_L, wo, g0, i, c1, ex, s3', qbb, sm', ft, z3, outF, -dIdx, -fTuple]
    · obtain ⟨i, hi, rfl⟩ := List.mem_map.mp hp
      obtain ⟨k, hk, rfl⟩ := List.mem_map.mp hi
      exact (hN k (by have := List.mem_range.mp hk; omega)).2
  · exact ⟨.shut x, other 1 "shut" 0 _ e (by decide) rfl (by decide +kernel) (by decide +kernel) (by decide +kernel) (by rfl) (by decide) rfl, ⟨nx, by simp [partsOf], fun p hp => nomatch hp⟩, by simp [partsOf]⟩
  · exact ⟨.walk x (N 0) (N 1), other 2 "walk" 2 _ e (by decide) rfl (by decide +kernel) (by decide +kernel) (by decide +kernel) (by rfl) (by decide) rfl, ⟨nx, by simp [partsOf], fun p hp => o2 p (by
      simp only [partsOf, List.mem_cons, List.not_mem_nil, or_false] at hp ⊢
      rcases hp with h | h <;> simp [h])⟩, by simp [partsOf]⟩
  · exact ⟨.put x (N 0), other 3 "put" 1 _ e (by decide) rfl (by decide +kernel) (by decide +kernel) (by decide +kernel) (by rfl) (by decide) rfl, ⟨nx, by simp [partsOf], fun p hp => o2 p (by simp [partsOf] at hp; simp [hp])⟩, by simp [partsOf]⟩
  · exact ⟨.take x (N 0), other 4 "take" 1 _ e (by decide) rfl (by decide +kernel) (by decide +kernel) (by decide +kernel) (by rfl) (by decide) rfl, ⟨nx, by simp [partsOf], fun p hp => o2 p (by simp [partsOf] at hp; simp [hp])⟩, by simp [partsOf]⟩
  · exact ⟨.mirror x, other 5 "mirror" 0 _ e (by decide) rfl (by decide +kernel) (by decide +kernel) (by decide +kernel) (by rfl) (by decide) rfl, ⟨nx, by simp [partsOf], fun p hp => nomatch hp⟩, by simp [partsOf]⟩
  · refine ⟨.lay x y (N 0), ?_, ⟨nx, by simp [partsOf], fun p hp => ?_⟩, by simp [partsOf]⟩
    · have i := iw 6 (by decide) "lay" rfl
      rw [show ((6 : Nat) : Int) = v0.fmod 9 from e.symm] at i
      have s3' := s3 (some (.str "lay")) (some (.str x)) none
      rw [e3] at s3'
      have b := qb "lay" (by decide +kernel) (by decide +kernel)
      have ix : dIdx (.lst [D.int (N 0), .int (N 1), .int (N 2)]) (.int 0) = .ok (.int (N 0)) := dIdx_list (i := 0) rfl
      unfold deedD
      dsimp only
      clear tab cp s3 sm iw qb ql hN ev other
      generalize [D.int (N 0), .int (N 1), .int (N 2)] = U at *
      generalize W9.map D.str = WD at *
      generalize (l.drop 1).map D.int = l1 at *
      generalize (l.drop 20).map D.int = l20 at *
      generalize l.map D.int = ll at *
      simp [f_any_deed_L, m_any_deed_L, wo, g0, i, c1, ex, s3', b, qll, c20, ey, ix, z4, outF, -dIdx, -fTuple]
    · simp only [partsOf, List.mem_cons, List.not_mem_nil, or_false] at hp
      rcases hp with e | e <;> subst e
      · exact ny
      · exact n0
  · exact ⟨.late x (N 0) (N 1) (N 2), other 7 "late" 3 _ e (by decide) rfl (by decide +kernel) (by decide +kernel) (by decide +kernel) (by rfl) (by decide) rfl, ⟨nx, by simp [partsOf], fun p hp => o2 p hp⟩, by simp [partsOf]⟩
  · exact ⟨.strike x (N 0), other 8 "strike" 1 _ e (by decide) rfl (by decide +kernel) (by decide +kernel) (by decide +kernel) (by rfl) (by decide) rfl, ⟨nx, by simp [partsOf], fun p hp => o2 p (by simp [partsOf] at hp; simp [hp])⟩, by simp [partsOf]⟩

theorem forL_step {t : Tg} {mb : Sl → O} {d : D} {ds : List D} {r r' : Sl} {xs : List D} (h1 : t.un d = .ok xs) (h2 : mb (setD r t.is xs) = .nx r') : forL t mb (d :: ds) r = forL t mb ds r' := by
  show (match t.un d with
      | .ok xs => (match mb (setD r t.is xs) with
        | .nx r' => forL t mb ds r'
        | o => o)
      | _ => .stuck) = _
  rw [h1]
  dsimp only
  rw [h2]
theorem tl_cutS (w : Str) (lo hi : Option Int) : (cutS w lo hi).cps.toList = cutL w.cps.toList lo hi := by
  unfold cutS cutL
  rfl
/-- signs below 128, not too many -/
structure TxOk (B : Nat) (t : Str) : Prop where
  asc : ∀ c ∈ t.cps.toList, c < 128
  len : t.length ≤ B
/-- sizes that may be -/
def Siz (ss : List Int) : Prop := (∀ s ∈ ss, 1 ≤ s) ∧ ss.sum ≤ 60
theorem Siz.sum_ge : ∀ {ss : List Int}, (∀ s ∈ ss, 1 ≤ s) → (ss.length : Int) ≤ ss.sum
  | [], _ => by simp
  | x :: ss, h => by
    have a := h x List.mem_cons_self
    have b := Siz.sum_ge (ss := ss) fun s hs => h s (List.mem_cons_of_mem _ hs)
    rw [List.length_cons, List.sum_cons]
    omega
theorem Siz.len {ss : List Int} (h : Siz ss) : ss.length ≤ 60 := by
  have := Siz.sum_ge h.1
  have := h.2
  omega
theorem tx_cut {B : Nat} {t : Str} (h : TxOk B t) (lo hi : Option Int) : TxOk B (cutS t lo hi) := ⟨fun c hc => by
  rw [tl_cutS] at hc
  unfold cutL at hc
  exact h.asc c (List.mem_of_mem_drop (List.mem_of_mem_take hc)), Nat.le_trans (cutS_length _ _ _) h.len⟩
theorem len_tlX (t : Str) : t.length = t.cps.toList.length := by simp [Str.length]
theorem tx_add {A B : Nat} {x y : Str} (h : TxOk A x) (g : TxOk B y) : TxOk (A + B) (x ++ y) := by
  have e : (x ++ y).cps.toList = x.cps.toList ++ y.cps.toList := by
    show (x.cps ++ y.cps).toList = _
    simp
  refine ⟨fun c hc => ?_, ?_⟩
  · rw [e] at hc
    rcases List.mem_append.mp hc with z | z
    · exact h.asc c z
    · exact g.asc c z
  · have h1 := h.len
    have g1 := g.len
    rw [len_tlX] at h1 g1 ⊢
    rw [e, List.length_append]
    omega
theorem tx_of {t : Str} (B : Nat) (h : (t.cps.toList.all fun c => decide (c < 128)) = true) (hl : t.length ≤ B) : TxOk B t := ⟨fun c hc => of_decide_eq_true (List.all_eq_true.mp h c hc), hl⟩
/-- words to be joined: their signs, and blanks, at most S -/
structure WsOk (S : Nat) (ws : List Str) : Prop where
  asc : ∀ w ∈ ws, ∀ c ∈ w.cps.toList, c < 128
  sum : (ws.map fun w => w.length + 1).sum ≤ S
theorem ws_app {A B : Nat} {xs ys : List Str} (h : WsOk A xs) (g : WsOk B ys) : WsOk (A + B) (xs ++ ys) := ⟨fun w hw => by
  rcases List.mem_append.mp hw with z | z
  · exact h.asc w z
  · exact g.asc w z, by
  rw [List.map_append, List.sum_append]
  have := h.sum
  have := g.sum
  omega⟩
theorem Rc.take {N k : Nat} {a b : List Int} (h : Rc N a b) (l : k ≤ N) : a.take k = b.take k := by
  rcases h with h | ⟨C, a', b', h1, h2, h3⟩
  · rw [h]
  · rw [h1, h2, List.take_append_of_le_length (by omega), List.take_append_of_le_length (by omega)]
theorem sum_take (f : Str → Nat) : ∀ (k : Nat) (l : List Str), ((l.take k).map f).sum + ((l.drop k).map f).sum = (l.map f).sum
  | 0, l => by simp
  | k + 1, [] => by simp
  | k + 1, x :: l => by
    have := sum_take f k l
    simp only [List.take_succ_cons, List.drop_succ_cons, List.map_cons, List.sum_cons]
    omega
theorem ws_take {S : Nat} {ws : List Str} (h : WsOk S ws) (k : Nat) : WsOk S (ws.take k) := ⟨fun w hw => h.asc w (List.mem_of_mem_take hw), by
  have := sum_take (fun w => w.length + 1) k ws
  have := h.sum
  omega⟩
theorem ws_drop {S : Nat} {ws : List Str} (h : WsOk S ws) (k : Nat) : WsOk S (ws.drop k) := ⟨fun w hw => h.asc w (List.mem_of_mem_drop hw), by
  have := sum_take (fun w => w.length + 1) k ws
  have := h.sum
  omega⟩
theorem ws_one {B : Nat} {w : Str} (h : TxOk B w) : WsOk (B + 1) [w] := ⟨fun v hv => by
  have e : v = w := by simpa using hv
  subst e
  exact h.asc, by
  have := h.len
  simp
  omega⟩
theorem spl_sum : ∀ (l acc : List Nat), ((TL.spl [32] 0 acc l).map fun w => w.length + 1).sum ≤ acc.length + l.length + 1
  | [], acc => by rw [TL.spl_nil]; simp
  | c :: l, acc => by
    by_cases h : TL.pre [32] (c :: l) = true
    · rw [TL.spl_hit h]
      have := spl_sum l []
      have e : ([32] : List Nat).length - 1 = 0 := rfl
      rw [e]
      simp only [List.map_cons, List.sum_cons, List.length_cons, List.length_nil] at this ⊢
      omega
    · rw [TL.spl_miss (by simpa using h)]
      have := spl_sum l (acc ++ [c])
      simp only [List.length_append, List.length_cons, List.length_nil] at this ⊢
      omega
theorem spl32 : ∀ (l acc : List Nat), (∀ w ∈ TL.spl [32] 0 acc l, (∀ c ∈ w, c ∈ acc ∨ c ∈ l) ∧ w.length ≤ acc.length + l.length) ∧ (TL.spl [32] 0 acc l).length ≤ l.length + 1 ∧ TL.spl [32] 0 acc l ≠ []
  | [], acc => by
    rw [TL.spl_nil]
    exact ⟨fun w hw => by
      have e : w = acc := by simpa using hw
      subst e
      exact ⟨fun c hc => .inl hc, by omega⟩, by simp, by simp⟩
  | c :: l, acc => by
    by_cases h : TL.pre [32] (c :: l) = true
    · rw [TL.spl_hit h]
      obtain ⟨h1, h2, h3⟩ := spl32 l []
      refine ⟨fun w hw => ?_, by simpa using h2, by simp⟩
      rcases List.mem_cons.mp hw with e | hw
      · subst e
        exact ⟨fun c hc => .inl hc, by omega⟩
      · obtain ⟨a, b⟩ := h1 w hw
        refine ⟨fun x hx => ?_, by simp at b ⊢; omega⟩
        rcases a x hx with z | z
        · simp at z
        · exact .inr (List.mem_cons_of_mem _ z)
    · rw [TL.spl_miss (by simpa using h)]
      obtain ⟨h1, h2, h3⟩ := spl32 l (acc ++ [c])
      refine ⟨fun w hw => ?_, by simp only [List.length_cons]; omega, h3⟩
      obtain ⟨a, b⟩ := h1 w hw
      refine ⟨fun x hx => ?_, by simp at b ⊢; omega⟩
      rcases a x hx with z | z
      · rcases List.mem_append.mp z with z | z
        · exact .inl z
        · exact .inr (by simp at z; rw [z]; exact List.mem_cons_self)
      · exact .inr (List.mem_cons_of_mem _ z)
theorem split_words {B : Nat} {t : Str} (h : TxOk B t) : (∀ w ∈ Txt.split t " ", TxOk B w) ∧ (Txt.split t " ").length ≤ B + 1 ∧ Txt.split t " " ≠ [] := by
  have e := TL.split_spl t (" " : Str) (by decide +kernel) (TL.kind_ok (by decide +kernel))
  rw [show TL.tl (" " : Str) = [32] from by decide +kernel] at e
  obtain ⟨h1, h2, h3⟩ := spl32 (TL.tl t) []
  rw [← e] at h1 h2 h3
  have lt : (TL.tl t).length ≤ B := by
    have := h.len
    rw [len_tlX] at this
    exact this
  refine ⟨fun w hw => ?_, by rw [List.length_map] at h2; omega, fun z => h3 (by rw [z]; rfl)⟩
  obtain ⟨a, b⟩ := h1 (TL.tl w) (List.mem_map_of_mem hw)
  refine ⟨fun c hc => ?_, ?_⟩
  · rcases a c hc with z | z
    · simp at z
    · exact h.asc c z
  · rw [len_tlX]
    have b' : w.cps.toList.length ≤ 0 + (TL.tl t).length := b
    omega
theorem split_ws {B : Nat} {t : Str} (h : TxOk B t) : WsOk (B + 1) (Txt.split t " ") := by
  refine ⟨fun w hw => ((split_words h).1 w hw).asc, ?_⟩
  have e := TL.split_spl t (" " : Str) (by decide +kernel) (TL.kind_ok (by decide +kernel))
  rw [show TL.tl (" " : Str) = [32] from by decide +kernel] at e
  have s := spl_sum (TL.tl t) []
  rw [← e, List.map_map] at s
  have e2 : ((fun w : List Nat => w.length + 1) ∘ TL.tl) = fun w : Str => w.length + 1 := by
    funext w
    show (TL.tl w).length + 1 = _
    rw [len_tlX]
  rw [e2] at s
  have := h.len
  rw [len_tlX] at this
  have : (TL.tl t).length ≤ B := this
  simp only [List.length_nil] at s
  omega
theorem joinL_sum (S : List Nat) : ∀ xs : List (List Nat), (TL.joinL S xs).length ≤ (xs.map fun w => w.length + S.length).sum
  | [] => by simp [TL.joinL]
  | [x] => by simp [TL.joinL]
  | x :: y :: r => by
    have := joinL_sum S (y :: r)
    show (x ++ (S ++ TL.joinL S (y :: r))).length ≤ _
    simp only [List.length_append, List.map_cons, List.sum_cons] at this ⊢
    omega
theorem joinL_mem {c : Nat} {S : List Nat} : ∀ {xs : List (List Nat)}, c ∈ TL.joinL S xs → c ∈ S ∨ ∃ x ∈ xs, c ∈ x
  | [], h => by cases h
  | [x], h => .inr ⟨x, by simp, h⟩
  | x :: y :: r, h => by
    have h' : c ∈ x ++ (S ++ TL.joinL S (y :: r)) := h
    rcases List.mem_append.mp h' with z | z
    · exact .inr ⟨x, by simp, z⟩
    · rcases List.mem_append.mp z with z | z
      · exact .inl z
      · rcases joinL_mem z with z | ⟨w, hw, z⟩
        · exact .inl z
        · exact .inr ⟨w, List.mem_cons_of_mem _ hw, z⟩
theorem join_ws {S : Nat} {ws : List Str} (h : WsOk S ws) (hS : S ≤ 16000000) : dJoin (.str " ") (.lst (ws.map D.str)) = .ok (.str (Txt.join " " ws)) ∧ TxOk S (Txt.join " " ws) := by
  have e1 : (" " : Str).length = 1 := by decide +kernel
  have sm : (ws.map (·.length)).sum + ws.length * 1 = (ws.map fun w => w.length + 1).sum := by
    clear h
    induction ws with
    | nil => rfl
    | cons w ws ih => simp only [List.map_cons, List.sum_cons, List.length_cons]; omega
  refine ⟨?_, fun c hc => ?_, ?_⟩
  · unfold dJoin
    dsimp only
    rw [strsOf_map]
    dsimp only
    rw [e1, sm, if_pos (le_szL (by have := h.sum; omega))]
  · have hc' : c ∈ TL.tl (Txt.join " " ws) := hc
    rw [TL.join_eq, TL.tl_join] at hc'
    rcases joinL_mem hc' with z | ⟨x, hx, z⟩
    · rw [show TL.tl (" " : Str) = [32] from by decide +kernel] at z
      have : c = 32 := by simpa using z
      omega
    · obtain ⟨w, hw, rfl⟩ := List.mem_map.mp hx
      exact h.asc w hw c z
  · rw [len_tlX]
    have e : (Txt.join " " ws).cps.toList = TL.joinL (TL.tl " ") (ws.map TL.tl) := by
      show TL.tl _ = _
      rw [TL.join_eq, TL.tl_join]
    rw [e]
    refine Nat.le_trans (joinL_sum _ _) ?_
    rw [show TL.tl (" " : Str) = [32] from by decide +kernel, List.map_map]
    have e2 : ((fun w : List Nat => w.length + ([32] : List Nat).length) ∘ TL.tl) = fun w : Str => w.length + 1 := by
      funext w
      show (TL.tl w).length + 1 = _
      rw [len_tlX]
    rw [e2]
    exact h.sum
theorem upper_small : ∀ c, c < 128 → ∀ y ∈ Unicode.upperOf c, y < 128 := by decide +kernel
theorem tx_upper {B : Nat} {t : Str} (h : TxOk B t) : TxOk (3 * B) (Txt.upper t) := by
  refine ⟨fun c hc => ?_, ?_⟩
  · have hc' : c ∈ (PySem.placed t fun _ c => Unicode.upperOf c).toList := hc
    unfold PySem.placed at hc'
    rw [Array.mem_toList_iff, Array.mem_flatten] at hc'
    obtain ⟨a, ha, hca⟩ := hc'
    rw [Array.mem_mapIdx] at ha
    obtain ⟨i, hi, rfl⟩ := ha
    have hm : t.cps[i] ∈ t.cps.toList := by simp
    exact upper_small _ (h.asc _ hm) c (by simpa using hca)
  · have z := PyProof.Rows.placed_le3 t (fun _ c => Unicode.upperOf c) fun _ c => PySem.StrLaws.upperOf_le3 c
    have := h.len
    show (PySem.placed t fun _ c => Unicode.upperOf c).size ≤ _
    omega
theorem dbl_mem {c x : Nat} : ∀ {l : List Nat}, x ∈ PySem.StrLaws.dbl c l → x ∈ l
  | k :: r, h => by
    unfold PySem.StrLaws.dbl at h
    split at h
    · rcases List.mem_cons.mp h with e | h
      · rw [e]; exact List.mem_cons_self
      · rcases List.mem_cons.mp h with e | h
        · rw [e]; exact List.mem_cons_self
        · exact List.mem_cons_of_mem _ (dbl_mem h)
    · rcases List.mem_cons.mp h with e | h
      · rw [e]; exact List.mem_cons_self
      · exact List.mem_cons_of_mem _ (dbl_mem h)
theorem dbl_len (c : Nat) : ∀ l : List Nat, (PySem.StrLaws.dbl c l).length ≤ 2 * l.length
  | [] => by simp [PySem.StrLaws.dbl]
  | k :: r => by
    have := dbl_len c r
    unfold PySem.StrLaws.dbl
    split <;> simp only [List.length_cons] <;> omega
theorem tx_repl {B : Nat} {t : Str} (h : TxOk B t) : TxOk (3 * B) (Txt.replace t " " "  ") := by
  have e : (Txt.replace t " " "  ").cps.toList = PySem.StrLaws.dbl 32 t.cps.toList := PySem.StrLaws.replace_double t 32
  refine ⟨fun c hc => ?_, ?_⟩
  · rw [e] at hc
    exact h.asc c (dbl_mem hc)
  · rw [len_tlX, e]
    have := dbl_len 32 t.cps.toList
    have l := h.len
    rw [len_tlX] at l
    omega
def oddsX : List Str := ["-0", "00", "-", "+3", "007", "-01", "", Txt.mul "1" 61, "-" ++ Txt.mul "9" 61, "a1", "abcdefghi", "A", "walk", "0", "-7"]
theorem odds_ok : ∀ w ∈ oddsX, TxOk 70 w := by
  have h : ∀ w ∈ oddsX, (w.cps.toList.all fun c => decide (c < 128)) = true ∧ w.length ≤ 70 := by decide +kernel
  exact fun w hw => tx_of 70 (h w hw).1 (h w hw).2
def signsX : Str := " \n-+.0AZaz9_!~#:;"
theorem cut_at (W : List Str) (k : Nat) : cutL (W.map D.str) none (some (k : Int)) = (W.take k).map D.str := by
  rw [show cutL (W.map D.str) none (some (k : Int)) = _ from cutL_to (k := k) rfl, List.map_take]
theorem cut_by (W : List Str) (k : Nat) : cutL (W.map D.str) (some (k : Int)) none = (W.drop k).map D.str := by
  rw [show cutL (W.map D.str) (some (k : Int)) none = _ from cutL_fromG (k := k) rfl, List.map_drop]
theorem add_strs {A B : Nat} {x y : Str} (h : TxOk A x) (g : TxOk B y) (hs : A + B ≤ 16000000) : dAdd (.str x) (.str y) = .ok (.str (x ++ y)) := by
  show (if x.length + y.length ≤ szL then R.ok (D.str (x ++ y)) else .stuck) = _
  rw [if_pos (le_szL (by have := h.len; have := g.len; omega))]
theorem add_words {A B : Nat} {xs ys : List Str} (h : WsOk A xs) (g : WsOk B ys) (hs : A + B ≤ 16000000) : dAdd (.lst (xs.map D.str)) (.lst (ys.map D.str)) = .ok (.lst ((xs ++ ys).map D.str)) := by
  have aux : ∀ l : List Str, l.length ≤ (l.map fun w => w.length + 1).sum := by
    intro l
    induction l with
    | nil => simp
    | cons w l ih => simp only [List.length_cons, List.map_cons, List.sum_cons]; omega
  have h1 := aux xs
  have g1 := aux ys
  have h2 := h.sum
  have g2 := g.sum
  show (if (xs.map D.str).length + (ys.map D.str).length ≤ szL then R.ok (D.lst (xs.map D.str ++ ys.map D.str)) else .stuck) = _
  rw [List.length_map, List.length_map, if_pos (le_szL (by omega)), List.map_append]
theorem split_dX {B : Nat} {t : Str} (h : TxOk B t) (hB : B ≤ 1000000) : dSplit (.str t) (.str " ") = .ok (.lst ((Txt.split t " ").map D.str)) := by
  show (if ((" " : Str).length == 0) = false ∧ t.length + 2 ≤ szL then R.ok (D.lst ((Txt.split t " ").map D.str)) else .stuck) = _
  rw [if_pos ⟨by decide +kernel, le_szL (by have := h.len; omega)⟩]
def tw (C : Str) (i : Int) : D := .tup [.str C, .int i]
theorem TxOk.upto {B B' : Nat} {t : Str} (h : TxOk B t) (le : B ≤ B') : TxOk B' t := ⟨h.asc, Nat.le_trans h.len le⟩
theorem bent_ok {B : Nat} (hB : B ≤ 300000) (t : Str) (h : TxOk B t) (l : List Int) (hl : 3 ≤ l.length) (dr : Drawn l) : ∃ t', f_bent_text_L [.str t, .lst (l.map D.int)] = .ok (.str t') ∧ TxOk (4 * B + 300) t' := by
  obtain ⟨v0, p0, q0, g0⟩ := drawn_get dr (i := 0) (by omega) (j := 0) rfl
  obtain ⟨v1, p1, q1, g1⟩ := drawn_get dr (i := 1) (by omega) (j := 1) rfl
  obtain ⟨v2, p2, q2, g2⟩ := drawn_get dr (i := 2) (by omega) (j := 2) rfl
  have sp := split_dX h (by omega)
  have ws := split_ws h
  obtain ⟨hw, hwl, hne⟩ := split_words h
  generalize Txt.split t " " = W at *
  have tl0 := h.len
  have hz : t.length ≤ szL := le_szL (by omega)
  have wl : 0 < W.length := List.length_pos_iff.mpr hne
  have f1 := fmod_pos (a := v1) (b := (t.length : Int) + 1) (by omega)
  have f2 := fmod_pos (a := v1) (b := (W.length : Int)) (by omega)
  have f3 := fmod_pos (a := v2) (b := 17) (by decide)
  have f4 := fmod_pos (a := v0) (b := 8) (by decide)
  have f5 := fmod_pos (a := v2) (b := 15) (by decide)
  have f6 := fmod_pos (a := v2) (b := 7) (by decide)
  obtain ⟨at', ha⟩ : ∃ n : Nat, v1.fmod ((t.length : Int) + 1) = (n : Int) := ⟨_, (Int.toNat_of_nonneg f1.1).symm⟩
  obtain ⟨one, ho⟩ : ∃ n : Nat, v1.fmod (W.length : Int) = (n : Int) := ⟨_, (Int.toNat_of_nonneg f2.1).symm⟩
  obtain ⟨si, hs⟩ : ∃ n : Nat, v2.fmod 17 = (n : Int) := ⟨_, (Int.toNat_of_nonneg f3.1).symm⟩
  obtain ⟨od, hd⟩ : ∃ n : Nat, v2.fmod 15 = (n : Int) := ⟨_, (Int.toNat_of_nonneg f5.1).symm⟩
  obtain ⟨la, hla⟩ : ∃ n : Nat, v2.fmod 7 = (n : Int) := ⟨_, (Int.toNat_of_nonneg f6.1).symm⟩
  rw [ho] at f2
  rw [hs] at f3
  rw [hd] at f5
  rw [hla] at f6
  -- the sign
  have sl : signsX.cps.toList.length = 17 := by decide +kernel
  obtain ⟨c, hc⟩ : ∃ c, signsX.cps.toList[si]? = some c := ⟨signsX.cps.toList[si]'(by omega), List.getElem?_eq_getElem (by omega)⟩
  have sx : dIdx (.str signsX) (.int (si : Int)) = .ok (.str ⟨#[c]⟩) := by
    show (if signsX.length ≤ szL then (match atI signsX.cps.toList (si : Int) with
      | some c => R.ok (D.str ⟨#[c]⟩)
      | none => .stuck) else .stuck) = _
    rw [if_pos (le_szL (by decide +kernel)), atI_nat hc]
  have hc8 : c < 128 := by
    have z : ∀ c ∈ signsX.cps.toList, c < 128 := by decide +kernel
    exact z c (List.mem_of_getElem? hc)
  have ts : TxOk 1 (⟨#[c]⟩ : Str) := ⟨fun x hx => by
    have : x = c := by simpa using hx
    omega, Nat.le_refl _⟩
  have fs : fLen [.str signsX] = .ok (.int 17) := by
    show (if signsX.length ≤ szL then R.ok (D.int (signsX.length : Nat)) else .stuck) = _
    rw [if_pos (le_szL (by decide +kernel))]
    exact congrArg R.ok (congrArg D.int (by decide +kernel))
  -- odd words
  have ol : oddsX.length = 15 := rfl
  obtain ⟨w, hwo⟩ : ∃ w, oddsX[od]? = some w := ⟨oddsX[od]'(by omega), List.getElem?_eq_getElem (by omega)⟩
  have tw := odds_ok w (List.mem_of_getElem? hwo)
  have ox : dIdx (.lst (oddsX.map D.str)) (.int (od : Int)) = .ok (.str w) := dIdx_list (by rw [List.getElem?_map, hwo]; rfl)
  have m61 : dMulS (.str "1") (.int 61) = .ok (.str (Txt.mul "1" 61)) := by
    show (if ("1" : Str).length = 1 ∧ (2 : Int) ≤ 61 ∧ (61 : Int) ≤ 100 then R.ok (D.str _) else .stuck) = _
    rw [if_pos (by decide +kernel)]
  have m91 : dMulS (.str "9") (.int 61) = .ok (.str (Txt.mul "9" 61)) := by
    show (if ("9" : Str).length = 1 ∧ (2 : Int) ≤ 61 ∧ (61 : Int) ≤ 100 then R.ok (D.str _) else .stuck) = _
    rw [if_pos (by decide +kernel)]
  have a91 : dAdd (.str "-") (.str (Txt.mul "9" 61)) = .ok (.str ("-" ++ Txt.mul "9" 61)) := by
    show (if ("-" : Str).length + (Txt.mul "9" 61).length ≤ szL then R.ok (D.str _) else .stuck) = _
    rw [if_pos (le_szL (by decide +kernel))]
  -- the word that is bent
  obtain ⟨u, hu⟩ : ∃ u, W[one]? = some u := ⟨W[one]'(by omega), List.getElem?_eq_getElem (by omega)⟩
  have ux : dIdx (.lst (W.map D.str)) (.int (one : Int)) = .ok (.str u) := dIdx_list (by rw [List.getElem?_map, hu]; rfl)
  have tu := hw u (List.mem_of_getElem? hu)
  have fl : fLen [.str t] = .ok (.int (t.length : Nat)) := by
    show (if t.length ≤ szL then R.ok (D.int (t.length : Nat)) else .stuck) = _
    rw [if_pos hz]
  have fw : fLen [.lst (W.map D.str)] = .ok (.int (W.length : Nat)) := by simp [fLen]
  have nz1 : ¬ (t.length : Int) + 1 = 0 := by omega
  have nz2 : ¬ (W.length : Int) = 0 := by omega
  have c_to := cut_at W one
  have c_by := cut_by W (one + 1)
  rw [show ((one + 1 : Nat) : Int) = (one : Int) + 1 by omega] at c_by
  -- what comes of it
  have k1 := tx_cut h none (some (at' : Int))
  have k2 := tx_cut h (some (at' : Int)) none
  have k3 := tx_cut h (some ((at' : Int) + 1)) none
  have b1 : 0 ≤ v0.fmod 8 ∧ v0.fmod 8 < 8 := f4
  have s15 : (15 : Nat) ≤ szL := le_szL (by decide)
  have s7 : (7 : Nat) ≤ szL := le_szL (by decide)
  have s2 : (2 : Nat) ≤ szL := le_szL (by decide)
  have s1 : (1 : Nat) ≤ szL := le_szL (by decide)
  show ∃ t', outF (m_bent_text_L [some (.str t), some (.lst (l.map D.int)), none, none, none, none, none, none, none]) = .ok (.str t') ∧ TxOk (4 * B + 300) t'
  unfold m_bent_text_L
  have mo : ∀ x y : Option D, mSet 7 (VL.gLst (VL.gCons (gC (.str "-0")) (VL.gCons (gC (.str "00")) (VL.gCons (gC (.str "-")) (VL.gCons (gC (.str "+3")) (VL.gCons (gC (.str "007")) (VL.gCons (gC (.str "-01")) (VL.gCons (gC (.str "")) (VL.gCons (gBin dMulS (gC (.str "1")) (gC (.int 61))) (VL.gCons (gBin dAdd (gC (.str "-")) (gBin dMulS (gC (.str "9")) (gC (.int 61)))) (VL.gCons (gC (.str "a1")) (VL.gCons (gC (.str "abcdefghi")) (VL.gCons (gC (.str "A")) (VL.gCons (gC (.str "walk")) (VL.gCons (gC (.str "0")) (VL.gCons (gC (.str "-7")) VL.gNil)))))))))))))))) [some (.str t), some (.lst (l.map D.int)), some (.str signsX), some (.lst (W.map D.str)), some (.int (at' : Int)), some (.int (one : Int)), some (.str ⟨#[c]⟩), x, y] = .nx [some (.str t), some (.lst (l.map D.int)), some (.str signsX), some (.lst (W.map D.str)), some (.int (at' : Int)), some (.int (one : Int)), some (.str ⟨#[c]⟩), some (.lst (oddsX.map D.str)), y] := fun x y => by
    have eo : oddsX.map D.str = [.str "-0", .str "00", .str "-", .str "+3", .str "007", .str "-01", .str "", .str (Txt.mul "1" 61), .str ("-" ++ Txt.mul "9" 61), .str "a1", .str "abcdefghi", .str "A", .str "walk", .str "0", .str "-7"] := rfl
    rw [eo]
    generalize W.map D.str = WM at *
    generalize l.map D.int = LM at *
    generalize signsX = SG at *
    generalize Txt.mul "1" 61 = m1 at *
    generalize Txt.mul "9" 61 = m9 at *
    simp [m61, m91, a91, s15, -dAdd]
  rw [seq_nx (r' := [some (.str t), some (.lst (l.map D.int)), some (.str signsX), none, none, none, none, none, none]) (by rfl)]
  rw [seq_nx (r' := [some (.str t), some (.lst (l.map D.int)), some (.str signsX), some (.lst (W.map D.str)), none, none, none, none, none]) (by
    generalize W.map D.str = WM at *
    generalize l.map D.int = LM at *
    simp [sp])]
  rw [seq_nx (r' := [some (.str t), some (.lst (l.map D.int)), some (.str signsX), some (.lst (W.map D.str)), some (.int (at' : Int)), none, none, none, none]) (by
    generalize W.map D.str = WM at *
    generalize l.map D.int = LM at *
    generalize (t.length : Int) = TL at *
    simp [g1, fl, nz1, ha, -dIdx, -fLen])]
  rw [seq_nx (r' := [some (.str t), some (.lst (l.map D.int)), some (.str signsX), some (.lst (W.map D.str)), some (.int (at' : Int)), some (.int (one : Int)), none, none, none]) (by
    generalize W.map D.str = WM at *
    generalize l.map D.int = LM at *
    generalize (W.length : Int) = TL at *
    simp [g1, fw, nz2, ho, -dIdx, -fLen])]
  rw [seq_nx (r' := [some (.str t), some (.lst (l.map D.int)), some (.str signsX), some (.lst (W.map D.str)), some (.int (at' : Int)), some (.int (one : Int)), some (.str ⟨#[c]⟩), none, none]) (by
    generalize W.map D.str = WM at *
    generalize l.map D.int = LM at *
    generalize signsX = SG at *
    simp [g2, fs, hs, sx, -dIdx, -fLen])]
  rw [seq_nx (mo _ _)]
  rw [seq_nx (r' := [some (.str t), some (.lst (l.map D.int)), some (.str signsX), some (.lst (W.map D.str)), some (.int (at' : Int)), some (.int (one : Int)), some (.str ⟨#[c]⟩), some (.lst (oddsX.map D.str)), some (.int (v0.fmod 8))]) (by
    generalize W.map D.str = WM at *
    generalize l.map D.int = LM at *
    generalize signsX = SG at *
    generalize oddsX.map D.str = OM at *
    simp [g0, -dIdx])]
  have way : v0.fmod 8 = 0 ∨ v0.fmod 8 = 1 ∨ v0.fmod 8 = 2 ∨ v0.fmod 8 = 3 ∨ v0.fmod 8 = 4 ∨ v0.fmod 8 = 5 ∨ v0.fmod 8 = 6 ∨ v0.fmod 8 = 7 := by omega
  have a1 := add_strs k1 ts (by omega)
  have a2 := add_strs (tx_add k1 ts) k2 (by omega)
  have a3 := add_strs (tx_add k1 ts) k3 (by omega)
  have a4 := add_strs k1 k3 (by omega)
  have wA := ws_take ws one
  have wB := ws_drop ws (one + 1)
  have d1 := add_words wA wB (by omega)
  have j1 := join_ws (ws_app wA wB) (by omega)
  have w2 : WsOk ((B + 1) + (B + 1)) [u, u] := ws_app (ws_one tu) (ws_one tu)
  have d2 := add_words wA w2 (by omega)
  have d3 := add_words (ws_app wA w2) wB (by omega)
  have j2 := join_ws (ws_app (ws_app wA w2) wB) (by omega)
  have w1 : WsOk (70 + 1) [w] := ws_one tw
  have d4 := add_words wA w1 (by omega)
  have d5 := add_words (ws_app wA w1) wB (by omega)
  have j3 := join_ws (ws_app (ws_app wA w1) wB) (by omega)
  have m2 : [u, u].map D.str = [.str u, .str u] := rfl
  have m1 : [w].map D.str = [.str w] := rfl
  rw [m2] at d2
  rw [m1] at d4
  have last : ∀ k : Int, k = 6 ∨ k = 7 → ∃ t', outF (mSeq (mRet (gBin dIdx (VL.gLst (VL.gCons (gBin dAdd (gVar 0) (gC (.str " "))) (VL.gCons (gBin dAdd (gC (.str " ")) (gVar 0)) (VL.gCons (gUn (dRepl " " "  ") (gVar 0)) (VL.gCons (gBin dAdd (gVar 0) (gC (.str "\n"))) (VL.gCons (gC (.str "")) (VL.gCons (gUn dUpper (gVar 0)) (VL.gCons (gVar 0) VL.gNil)))))))) (gBin dMod (gBin dIdx (gVar 1) (gC (.int 2))) (gC (.int 7))))) mNil [some (.str t), some (.lst (l.map D.int)), some (.str signsX), some (.lst (W.map D.str)), some (.int (at' : Int)), some (.int (one : Int)), some (.str ⟨#[c]⟩), some (.lst (oddsX.map D.str)), some (.int k)]) = .ok (.str t') ∧ TxOk (4 * B + 300) t' := fun k _ => by
    have tb : TxOk 1 (" " : Str) := tx_of 1 (by decide +kernel) (by decide +kernel)
    have tn : TxOk 1 ("\n" : Str) := tx_of 1 (by decide +kernel) (by decide +kernel)
    have te : TxOk 0 ("" : Str) := tx_of 0 (by decide +kernel) (by decide +kernel)
    have z1 := add_strs h tb (by omega)
    have z2 := add_strs tb h (by omega)
    have z3 := add_strs h tn (by omega)
    have z4 : dRepl " " "  " (.str t) = .ok (.str (Txt.replace t " " "  ")) := by
      show (if t.length + (t.length + 1) * ("  " : Str).length ≤ szL then R.ok (D.str _) else .stuck) = _
      rw [show ("  " : Str).length = 2 from by decide +kernel, if_pos (le_szL (by omega))]
    have z5 : dUpper (.str t) = .ok (.str (Txt.upper t)) := by
      show (if 3 * t.length ≤ szL then R.ok (D.str _) else .stuck) = _
      rw [if_pos (le_szL (by omega))]
    have al : ∀ x ∈ [t ++ " ", " " ++ t, Txt.replace t " " "  ", t ++ "\n", "", Txt.upper t, t], TxOk (4 * B + 300) x := fun x hx => by
      simp only [List.mem_cons, List.not_mem_nil, or_false] at hx
      rcases hx with e | e | e | e | e | e | e <;> subst e
      · exact (tx_add h tb).upto (by omega)
      · exact (tx_add tb h).upto (by omega)
      · exact (tx_repl h).upto (by omega)
      · exact (tx_add h tn).upto (by omega)
      · exact te.upto (by omega)
      · exact (tx_upper h).upto (by omega)
      · exact h.upto (by omega)
    obtain ⟨x, hx⟩ : ∃ x, [t ++ " ", " " ++ t, Txt.replace t " " "  ", t ++ "\n", "", Txt.upper t, t][la]? = some x := ⟨_, List.getElem?_eq_getElem (by simp only [List.length_cons, List.length_nil]; omega)⟩
    have lx : dIdx (.lst [.str (t ++ " "), .str (" " ++ t), .str (Txt.replace t " " "  "), .str (t ++ "\n"), .str "", .str (Txt.upper t), .str t]) (.int (la : Int)) = .ok (.str x) := by
      refine dIdx_list ?_
      have := congrArg (Option.map D.str) hx
      rw [← List.getElem?_map] at this
      exact this
    refine ⟨x, ?_, al x (List.mem_of_getElem? hx)⟩
    generalize W.map D.str = WM at *
    generalize l.map D.int = LM at *
    generalize signsX = SG at *
    generalize oddsX.map D.str = OM at *
    simp [g2, hla, z1, z2, z3, z4, z5, s7, lx, outF, -dIdx, -dAdd]
  generalize (W.take one ++ W.drop (one + 1)) = J1 at *
  generalize (W.take one ++ [u, u] ++ W.drop (one + 1)) = J2 at *
  generalize (W.take one ++ [w] ++ W.drop (one + 1)) = J3 at *
  generalize (W.take one ++ [u, u]) = J4 at *
  generalize (W.take one ++ [w]) = J5 at *
  generalize (W.take one).map D.str = WT at *
  generalize (W.drop (one + 1)).map D.str = WD at *
  generalize hWM : W.map D.str = WM at *
  generalize l.map D.int = LM at *
  generalize signsX = SG at *
  generalize oddsX.map D.str = OM at *
  generalize ((at' : Nat) : Int) = ai at *
  generalize ((one : Nat) : Int) = oi at *
  have ai1 : dAdd (.int ai) (.int 1) = .ok (.int (ai + 1)) := rfl
  have oi1 : dAdd (.int oi) (.int 1) = .ok (.int (oi + 1)) := rfl
  rcases way with e | e | e | e | e | e | e | e <;> rw [e]
  · exact ⟨_, by simp [hz, a1, a2, outF, -dAdd], (tx_add (tx_add k1 ts) k2).upto (by omega)⟩
  · exact ⟨_, by simp [hz, ai1, a4, outF, -dAdd], (tx_add k1 k3).upto (by omega)⟩
  · exact ⟨_, by simp [hz, ai1, a1, a3, outF, -dAdd], (tx_add (tx_add k1 ts) k3).upto (by omega)⟩
  · exact ⟨Txt.join " " J1, by simp [oi1, c_to, c_by, d1, j1.1, outF, -dAdd], j1.2.upto (by omega)⟩
  · exact ⟨Txt.join " " J2, by simp [oi1, c_to, c_by, ux, s2, d2, d3, j2.1, outF, -dAdd, -dIdx], j2.2.upto (by omega)⟩
  · exact ⟨Txt.join " " J3, by simp [oi1, c_to, c_by, g2, hd, ox, s1, d4, d5, j3.1, outF, -dAdd, -dIdx], j3.2.upto (by omega)⟩
  · obtain ⟨t', x1, x2⟩ := last 6 (.inl rfl)
    exact ⟨t', by rw [← x1]; simp [-dAdd, -dIdx], x2⟩
  · obtain ⟨t', x1, x2⟩ := last 7 (.inr rfl)
    exact ⟨t', by rw [← x1]; simp [-dAdd, -dIdx], x2⟩

def pieceD : Part → D
  | .n i => .int i
  | .x s => .str s
abbrev itx (n : Int) : Str := Str.ofString (toString n)
def partX : Part → Str
  | .n i => itx i
  | .x s => s
def wordOf : Deed → Str
  | .build _ _ => "build"
  | .shut _ => "shut"
  | .walk _ _ _ => "walk"
  | .put _ _ => "put"
  | .take _ _ => "take"
  | .mirror _ => "mirror"
  | .lay _ _ _ => "lay"
  | .late _ _ _ _ => "late"
  | .strike _ _ => "strike"
def wordsOf (d : Deed) : List Str := wordOf d :: roadOf d :: (partsOf d).map partX
def txtOf (d : Deed) : Str := Txt.join " " (wordsOf d)
/-- can be written -/
def PartOk : Part → Prop
  | .n i => i.natAbs < 2 ^ 1000
  | .x s => s.length ≤ 1000
structure WriteOk (d : Deed) : Prop where
  road : (roadOf d).length ≤ 1000
  len : (partsOf d).length ≤ 500
  all : ∀ p ∈ partsOf d, PartOk p
theorem nameOk_len {x : Str} (h : nameOk x = true) : x.length ≤ 8 := by
  unfold nameOk at h
  rw [Bool.and_eq_true] at h
  have := of_decide_eq_true h.1
  exact this.2
theorem partR_ok {p : Part} (h : PartR p) : PartOk p := by
  cases p with
  | n i =>
    have h' : i.natAbs < 10 ^ 60 := h
    have z : (10 : Nat) ^ 60 ≤ 2 ^ 1000 := by decide +kernel
    exact Nat.lt_of_lt_of_le h' z
  | x s =>
    have h' : nameOk s = true := h
    have := nameOk_len h'
    show s.length ≤ 1000
    omega
theorem read_write {d : Deed} (h : ReadOk d) : WriteOk d := ⟨by have := nameOk_len h.road; omega, h.len, fun p hp => partR_ok (h.all p hp)⟩
theorem log_lt {a : Int} (h : a.natAbs < 2 ^ 1000) : a.natAbs.log2 < 1920 := by
  by_cases z : a.natAbs = 0
  · rw [z]; decide
  · have := (Nat.log2_lt z).mpr h
    omega
theorem part_str {p : Part} (h : PartOk p) : fStr [pieceD p] = .ok (.str (partX p)) := by
  cases p with
  | n i =>
    have h' : i.natAbs < 2 ^ 1000 := h
    show (if i.natAbs.log2 < 1920 then R.ok (D.str (itx i)) else .stuck) = _
    rw [if_pos (log_lt h')]
    rfl
  | x s => rfl
theorem itx_len {a : Int} (h : a.natAbs.log2 < 1920) : (Str.ofString (toString a)).length ≤ 1921 := by
  rw [PySem.ofString_length]; exact PySem.int_text_length_le (k := 1920) (by decide) h
theorem part_len {p : Part} (h : PartOk p) : (partX p).length ≤ 2000 := by
  cases p with
  | n i =>
    have h' : i.natAbs < 2 ^ 1000 := h
    exact Nat.le_trans (itx_len (log_lt h')) (by decide)
  | x s =>
    have h' : s.length ≤ 1000 := h
    show s.length ≤ 2000
    omega
theorem join_ok (ys : List Str) (h : ∀ y ∈ ys, y.length ≤ 2000) (hl : ys.length ≤ 1000) : dJoin (.str " ") (.lst (ys.map D.str)) = .ok (.str (Txt.join " " ys)) := by
  unfold dJoin
  dsimp only
  rw [strsOf_map]
  dsimp only
  have s := sum_len ys h
  have e1 : (" " : Str).length = 1 := by decide +kernel
  rw [e1, if_pos (le_szL (by omega))]
theorem word_lenT (d : Deed) : (wordOf d).length ≤ 2000 := (by decide +kernel : ∀ w ∈ (["build", "shut", "walk", "put", "take", "mirror", "lay", "late", "strike"] : List Str), w.length ≤ 2000) _ (by cases d <;> simp [wordOf])
theorem words_join {d : Deed} (h : WriteOk d) : dJoin (.str " ") (.lst ((wordsOf d).map D.str)) = .ok (.str (txtOf d)) := join_ok _ (fun y hy => by
  unfold wordsOf at hy
  rcases List.mem_cons.mp hy with e | hy
  · rw [e]; exact word_lenT d
  · rcases List.mem_cons.mp hy with e | hy
    · rw [e]; have := h.road; omega
    · obtain ⟨p, hp, rfl⟩ := List.mem_map.mp hy
      exact part_len (h.all p hp)) (by unfold wordsOf; have := h.len; simp; omega)
theorem deed_parts (d : Deed) (h : ∀ x r, d ≠ .build x r) : deedD d = .tup (((.x (wordOf d)) :: .x (roadOf d) :: partsOf d).map pieceD) := by
  cases d <;> first | rfl | exact absurd rfl (h _ _)
theorem word_b (d : Deed) : dEq (.str (wordOf d)) (.str "build") = .ok (.bl (decide (wordOf d = "build"))) := by
  have l1 : (PyData.str (wordOf d)).canLay0 = true := (by decide +kernel : ∀ w ∈ (["build", "shut", "walk", "put", "take", "mirror", "lay", "late", "strike"] : List Str), (PyData.str w).canLay0 = true) _ (by cases d <;> simp [wordOf])
  rw [eq_str _ _ l1 (by decide +kernel)]
  congr 2
theorem word_nb (d : Deed) (h : ∀ x r, d ≠ .build x r) : wordOf d ≠ "build" := by
  cases d with
  | build x r => exact absurd rfl (h x r)
  | _ => simp only [wordOf]; decide +kernel
theorem law_text_ok (d : Deed) (h : WriteOk d) : f_text_L [deedD d] = .ok (.str (txtOf d)) := by
  have wj := words_join h
  have i0 : dIdx (deedD d) (.int 0) = .ok (.str (wordOf d)) := by cases d <;> rfl
  have i1 : dIdx (deedD d) (.int 1) = .ok (.str (roadOf d)) := by cases d <;> rfl
  have wb := word_b d
  have lz : (partsOf d).length ≤ szL := le_szL (by have := h.len; omega)
  have st1 : mSet 1 (gIf (gTest (gBin dEq (gBin dIdx (gVar 0) (gC (.int 0))) (gC (.str "build")))) (gCall fList (VL.gCons (gBin dIdx (gVar 0) (gC (.int 2))) VL.gNil)) (gCall fList (VL.gCons (gSl (gVar 0) (gPart (gC (.int 2))) gNoPart) VL.gNil))) [some (deedD d), none, none] = .nx [some (deedD d), some (.lst ((partsOf d).map pieceD)), none] := by
    by_cases hb : ∃ x r, d = .build x r
    · obtain ⟨x, r, e⟩ := hb
      subst e
      have i2 : dIdx (deedD (.build x r)) (.int 2) = .ok (.tup (r.map D.int)) := rfl
      have i0' : dIdx (deedD (.build x r)) (.int 0) = .ok (.str "build") := rfl
      have wb' : dEq (.str "build") (.str "build") = .ok (.bl true) := wb.trans (by simp [wordOf])
      have e : (partsOf (.build x r)).map pieceD = r.map D.int := by simp [partsOf, pieceD, Function.comp_def]
      rw [e]
      generalize deedD (.build x r) = Q at *
      simp [i0', i2, wb', -dIdx]
    · have hb' : ∀ x r, d ≠ .build x r := fun x r e => hb ⟨x, r, e⟩
      rw [decide_eq_false (word_nb d hb')] at wb
      have sl : dSlL (deedD d) (some 2) none = .ok (.tup ((partsOf d).map pieceD)) := by
        rw [deed_parts d hb']
        show R.ok (D.tup (cutL _ (some 2) none)) = _
        rw [show cutL (((.x (wordOf d)) :: .x (roadOf d) :: partsOf d).map pieceD) (some 2) none = _ from cutL_fromG (k := 2) rfl]
        rfl
      generalize (partsOf d).map pieceD = V at *
      generalize deedD d = Q at *
      simp [i0, wb, sl, -dIdx, -dSlL]
  have cp : gComp (gIter (gVar 1)) (.one 2) [2] gYes (gCall fStr (VL.gCons (gVar 2) VL.gNil)) [some (deedD d), some (.lst ((partsOf d).map pieceD)), none] = .ok (.lst ((partsOf d).map fun p => D.str (partX p))) := by
    refine gComp_map (l := partsOf d) (F := pieceD) (G := fun p => D.str (partX p)) rfl fun p hp => ?_
    have z := part_str (h.all p hp)
    generalize pieceD p = P at *
    simp [gTurn, z, -fStr]
  have z2 : 2 + ((partsOf d).map fun p => D.str (partX p)).length ≤ szL := le_szL (by have := h.len; rw [List.length_map]; omega)
  have ad : dAdd (.lst [.str (wordOf d), .str (roadOf d)]) (.lst ((partsOf d).map fun p => D.str (partX p))) = .ok (.lst ((wordsOf d).map D.str)) := by
    show (if 2 + ((partsOf d).map fun p => D.str (partX p)).length ≤ szL then R.ok (D.lst _) else .stuck) = _
    rw [if_pos z2]
    simp [wordsOf]
  have s2 : (2 : Nat) ≤ szL := le_szL (by decide)
  show outF (m_text_L [some (deedD d), none, none]) = _
  unfold m_text_L
  rw [seq_nx st1]
  clear st1
  generalize (wordsOf d).map D.str = W at *
  generalize (partsOf d).map (fun p => D.str (partX p)) = U at *
  generalize (partsOf d).map pieceD = V at *
  generalize deedD d = Q at *
  simp [i0, i1, cp, ad, wj, s2, outF, -dIdx, -dAdd]

theorem Rc.mono {N M : Nat} {a b : List Int} (h : Rc N a b) (l : M ≤ N) : Rc M a b := by
  rcases h with h | ⟨C, a', b', h1, h2, h3⟩
  · exact .inl h
  · exact .inr ⟨C, a', b', h1, h2, by omega⟩
theorem Rc.le {N k : Nat} {a b : List Int} (h : Rc N a b) (l : k ≤ N) : k ≤ a.length ↔ k ≤ b.length := by
  rcases h with h | ⟨C, a', b', h1, h2, h3⟩
  · rw [h]
  · rw [h1, h2, List.length_append, List.length_append]
    omega
/-- two runs alike, N places deep when they are empty ones -/
def R1 (N : Nat) (p q : Run) : Prop := p.1 = q.1 ∧ (p.1 = true → p.2 = q.2) ∧ Rc N p.2 q.2
/-- .. all as deep -/
inductive RA (M : Nat) : List Run → List Run → Prop
  | nil : RA M [] []
  | cons {p q : Run} {P L : List Run} : R1 (M + 1) p q → RA M P L → RA M (p :: P) (q :: L)
theorem RA.app {M : Nat} {P L : List Run} (h : RA M P L) {p q : Run} (h2 : R1 (M + 1) p q) : RA M (P ++ [p]) (L ++ [q]) := by
  induction h with
  | nil => exact .cons h2 .nil
  | cons h _ ih => exact .cons h ih
theorem Rc.app {N : Nat} {a b x y : List Int} (h : Rc N a b) (h2 : Rc N x y) : Rc N (a ++ x) (b ++ y) := by
  rcases h with h | ⟨C, a', b', e1, e2, e3⟩
  · subst h
    rcases h2 with h2 | ⟨C, a', b', e1, e2, e3⟩
    · exact .inl (by rw [h2])
    · exact .inr ⟨a ++ C, a', b', by rw [e1, List.append_assoc], by rw [e2, List.append_assoc], by rw [List.length_append]; omega⟩
  · exact .inr ⟨C, a' ++ x, b' ++ y, by rw [e1, List.append_assoc], by rw [e2, List.append_assoc], e3⟩
theorem R1.mono {N M : Nat} {p q : Run} (h : R1 N p q) (l : M ≤ N) : R1 M p q := ⟨h.1, h.2.1, Rc.mono h.2.2 l⟩
/-- lists of runs, the last one place less deep -/
inductive RR (M : Nat) : List Run → List Run → Prop
  | nil : RR M [] []
  | last {p q : Run} : R1 M p q → RR M [p] [q]
  | cons {p q : Run} {P L : List Run} : R1 (M + 1) p q → RR M P L → RR M (p :: P) (q :: L)
theorem RR.mono {M N : Nat} {P L : List Run} (h : RR M P L) (l : N ≤ M) : RR N P L := by
  induction h with
  | nil => exact .nil
  | last h => exact .last (R1.mono h l)
  | cons h _ ih => exact .cons (R1.mono h (by omega)) ih
theorem RA.toR {M : Nat} {P L : List Run} (h : RA M P L) : RR M P L := by
  induction h with
  | nil => exact .nil
  | cons h _ ih => exact .cons h ih
theorem RA.appL {M : Nat} {P L : List Run} (h : RA M P L) {p q : Run} (h2 : R1 M p q) : RR M (P ++ [p]) (L ++ [q]) := by
  induction h with
  | nil => exact .last h2
  | cons h _ ih => exact .cons h ih
/-- joined runs alternate, none is empty, the first is full -/
structure Alt (L : List Run) : Prop where
  ne : ∀ p ∈ L, p.2 ≠ []
  hd : ∀ p, L.head? = some p → p.1 = true
  ch : ∀ (A B : List Run) (p q : Run), L = A ++ p :: q :: B → p.1 ≠ q.1
theorem Drawn.snoc {l : List Int} {x : Int} (h : Drawn l) (h1 : 0 ≤ x) (h2 : x < 9967) : Drawn (l ++ [x]) := fun d hd => by
  rcases List.mem_append.mp hd with z | z
  · exact h d z
  · have : d = x := by simpa using z
    subst this
    exact ⟨h1, h2⟩
theorem Alt.snoc {f : List Run} {l r : Run} (h : Alt (f ++ [l])) (e1 : l.1 ≠ r.1) (e2 : r.2 ≠ []) : Alt (f ++ [l] ++ [r]) := by
  refine ⟨fun p hp => ?_, fun p hp => ?_, fun A B p q e => ?_⟩
  · rcases List.mem_append.mp hp with w | w
    · exact h.ne p w
    · rw [List.mem_singleton.mp w]; exact e2
  · cases f with
    | nil => exact h.hd p hp
    | cons a f => exact h.hd p hp
  · rcases List.eq_nil_or_concat B with w | ⟨B0, b, w⟩
    · subst w
      have e3 : f ++ [l] ++ [r] = (A ++ [p]) ++ [q] := by rw [e]; simp
      obtain ⟨e4, e5⟩ := List.append_inj' e3 rfl
      cases e5
      obtain ⟨_, e7⟩ := List.append_inj' e4 rfl
      cases e7
      exact e1
    · rw [List.concat_eq_append] at w
      subst w
      have e3 : f ++ [l] ++ [r] = (A ++ p :: q :: B0) ++ [b] := by rw [e]; simp
      obtain ⟨e4, _⟩ := List.append_inj' e3 rfl
      exact h.ch A B0 p q e4
theorem RA.snoc {M : Nat} {P L : List Run} (h : RA M P L) : (P = [] ∧ L = []) ∨ ∃ P0 p L0 q, P = P0 ++ [p] ∧ L = L0 ++ [q] ∧ RA M P0 L0 ∧ R1 (M + 1) p q := by
  induction h with
  | nil => exact .inl ⟨rfl, rfl⟩
  | cons h hr ih =>
    right
    rcases ih with ⟨rfl, rfl⟩ | ⟨P0, p, L0, q, rfl, rfl, h1, h2⟩
    · exact ⟨[], _, [], _, rfl, rfl, .nil, h⟩
    · exact ⟨_ :: P0, p, _ :: L0, q, rfl, rfl, .cons h h1, h2⟩
theorem Alt.nil : Alt [] := ⟨(fun p h => nomatch h), (fun p h => nomatch h), fun A B p q e => by
  have := congrArg List.length e
  simp at this⟩
theorem R1.nil {N : Nat} {p q : Run} (h : R1 N p q) (hN : 1 ≤ N) : p.2 = [] ↔ q.2 = [] := by
  have := h.2.2.le (k := 1) hN
  rw [← List.length_eq_zero_iff, ← List.length_eq_zero_iff]
  omega
theorem Alt.snocL {f : List Run} {l : Run} (h : Alt (f ++ [l])) {l2 : Run} (e1 : l2.1 = l.1) (e2 : l2.2 ≠ []) : Alt (f ++ [l2]) := by
  refine ⟨fun p hp => ?_, fun p hp => ?_, fun A B p q e => ?_⟩
  · rcases List.mem_append.mp hp with w | w
    · exact h.ne p (List.mem_append_left _ w)
    · rw [List.mem_singleton.mp w]; exact e2
  · cases f with
    | nil =>
      have := h.hd l rfl
      cases hp
      rw [e1]; exact this
    | cons a f => exact h.hd p hp
  · rcases List.eq_nil_or_concat B with w | ⟨B0, b, w⟩
    · subst w
      have e3 : f ++ [l2] = (A ++ [p]) ++ [q] := by rw [e]; simp
      obtain ⟨e4, e5⟩ := List.append_inj' e3 rfl
      cases e5
      have := h.ch A [] p l (by rw [e4]; simp)
      rw [e1]; exact this
    · rw [List.concat_eq_append] at w
      subst w
      have e3 : f ++ [l2] = (A ++ p :: q :: B0) ++ [b] := by rw [e]; simp
      obtain ⟨e4, e5⟩ := List.append_inj' e3 rfl
      exact h.ch A (B0 ++ [l]) p q (by rw [e4]; simp)
theorem pl_up : ∀ (m : Nat) (d : D), pl m d = true → pl (m + 1) d = true
  | 0, _, h => by cases h
  | m + 1, .lst xs, h => by
    have q : (xs.all (pl m) && decide (xs.length ≤ szL)) = true := h
    obtain ⟨q1, q2⟩ := Bool.and_eq_true_iff.mp q
    show (xs.all (pl (m + 1)) && decide (xs.length ≤ szL)) = true
    rw [q2, Bool.and_true]
    exact List.all_eq_true.mpr fun x hx => pl_up m x (List.all_eq_true.mp q1 x hx)
  | m + 1, .tup xs, h => by
    have q : (xs.all (pl m) && decide (xs.length ≤ szL)) = true := h
    obtain ⟨q1, q2⟩ := Bool.and_eq_true_iff.mp q
    show (xs.all (pl (m + 1)) && decide (xs.length ≤ szL)) = true
    rw [q2, Bool.and_true]
    exact List.all_eq_true.mpr fun x hx => pl_up m x (List.all_eq_true.mp q1 x hx)
  | _ + 1, .non, _ => rfl
  | _ + 1, .bl _, _ => rfl
  | _ + 1, .int _, _ => rfl
  | _ + 1, .str _, h => h
  | _ + 1, .dct _, h => by cases h
  | _ + 1, .obj _ _, h => by cases h
  | _ + 1, .scr _, h => by cases h
theorem blsOf_map {α : Type} (g : α → Bool) : ∀ l : List α, blsOf (l.map fun x => D.bl (g x)) = some (l.map g)
  | [] => rfl
  | x :: l => by
    rw [List.map_cons, blsOf, blsOf_map g l]
    rfl
theorem dIdx_tup {ds : List D} {i : Nat} {d : D} (h : ds[i]? = some d) : dIdx (.tup ds) (.int i) = .ok d := by
  dsimp only [dIdx]
  rw [atI_nat h]

def share (ps : List (Int × Int)) (s : Int) : Int := (ps.map fun p => if p.1 < s then p.1 else s).sum
/-- where a train is ripe -/
def vac (ps : List (Int × Int)) (p : Int × Int) : Int := p.2 + 2 * share ps p.1
def ripes (ps : List (Int × Int)) (q : Int) : List Int := (ps.filter fun p => vac ps p == q).map (·.1)
def shortest (ps : List (Int × Int)) (q : Int) : Int := lmin (ripes ps q)
def rest (ps : List (Int × Int)) (p : Int) : List (Int × Int) := ps.erase (shortest ps p, p - 2 * share ps (shortest ps p))
def figures : Str := "0123456789"
def figsL (l : List Nat) : List Nat := if l.take 1 = [45] then l.drop 1 else l
def figB (c : Nat) : Bool := decide (c ∈ figures.cps.toList)
def numOk (w : Str) : Bool := decide (1 ≤ (figsL w.cps.toList).length ∧ (figsL w.cps.toList).length ≤ 60) && (figsL w.cps.toList).all figB && !(decide ((figsL w.cps.toList).take 1 = [48]) && decide (w ≠ "0"))
def numV (w : Str) : Option Int := if numOk w then PySem.intText? w else none
abbrev txtBad : Exc := ⟨"BadText", some (.int 0)⟩
theorem str_eqL (a b : Str) : (a == b) = decide (a.cps.toList = b.cps.toList) := by
  rw [Bool.eq_iff_iff]
  simp only [beq_iff_eq, decide_eq_true_eq]
  exact ⟨fun e => by rw [e], fun e => TL.ext_tl e⟩
theorem cut_1 (w : Str) : (cutS w none (some 1)).cps.toList = w.cps.toList.take 1 := by rw [tl_cutS]; exact cutL_to (k := 1) rfl
theorem cut_from1 (w : Str) : (cutS w (some 1) none).cps.toList = w.cps.toList.drop 1 := by rw [tl_cutS]; exact cutL_fromG (k := 1) rfl
theorem lay_of {a w : Str} (hw : (PyData.str w).canLay0 = true) (h : ∀ c ∈ a.cps.toList, c ∈ w.cps.toList) : (PyData.str a).canLay0 = true := by
  have hw' : w.cps.all (· < 0x110000) = true := hw
  show a.cps.all (· < 0x110000) = true
  rw [← Array.all_toList] at hw' ⊢
  rw [List.all_eq_true] at hw' ⊢
  exact fun c hc => hw' c (h c hc)
theorem figs_45 : TL.tl ("-" : Str) = [45] := by decide +kernel
theorem figs_48 : TL.tl ("0" : Str) = [48] := by decide +kernel
theorem idx_0 (F : Str) (c : Nat) (l : List Nat) (e : F.cps.toList = c :: l) (hz : F.length ≤ szL) : dIdx (.str F) (.int 0) = .ok (.str ⟨#[c]⟩) := by
  show (if F.length ≤ szL then (match atI F.cps.toList 0 with
    | some c => R.ok (D.str ⟨#[c]⟩)
    | none => .stuck) else .stuck) = _
  have z : atI (c :: l) 0 = some c := atI_nat (j := 0) rfl
  rw [if_pos hz, e, z]
theorem all_figs (F : Str) (hz : F.length ≤ szL) (a b : Option D) : gComp (gIter (gVar 1)) (.one 2) [2] gYes (gBin dIn (gVar 2) (gC (.str "0123456789"))) [a, some (.str F), b] = .ok (.lst (F.cps.toList.map fun c => D.bl (figB c))) ∧ fAll [.lst (F.cps.toList.map fun c => D.bl (figB c))] = .ok (.bl (F.cps.toList.all figB)) := by
  have cp : gComp (gIter (gVar 1)) (.one 2) [2] gYes (gBin dIn (gVar 2) (gC (.str "0123456789"))) [a, some (.str F), b] = .ok (.lst (F.cps.toList.map fun c => D.bl (figB c))) := by
    refine gComp_map (l := F.cps.toList) (F := fun c => D.str ⟨#[c]⟩) (G := fun c => D.bl (figB c)) ?_ fun c _ => ?_
    · have hz' : F.cps.size ≤ szL := hz
      simp [dIter, hz']
    · simp [gTurn, dIn, figB, figures]
  have fa : fAll [.lst (F.cps.toList.map fun c => D.bl (figB c))] = .ok (.bl (F.cps.toList.all figB)) := by
    unfold fAll
    dsimp only
    rw [blsOf_map]
    dsimp only
    rw [List.all_map]
    rfl
  exact ⟨cp, fa⟩
theorem fig_dig {c : Nat} : figB c = true ↔ 48 ≤ c ∧ c ≤ 57 := by
  have e : figures.cps.toList = [48, 49, 50, 51, 52, 53, 54, 55, 56, 57] := by decide +kernel
  unfold figB
  rw [e]
  simp only [decide_eq_true_eq, List.mem_cons, List.not_mem_nil, or_false]
  omega
theorem figs_int (w : Str) (h1 : 1 ≤ (figsL w.cps.toList).length) (h2 : (figsL w.cps.toList).length ≤ 60) (ha : (figsL w.cps.toList).all figB = true) : ∃ n, PySem.intText? w = some n ∧ w.length ≤ 640 := by
  have hd : ∀ c ∈ figsL w.cps.toList, 48 ≤ c ∧ c ≤ 57 := fun c hc => fig_dig.mp (List.all_eq_true.mp ha c hc)
  have wl : w.length = w.cps.toList.length := by simp [Str.length]
  have hne : figsL w.cps.toList ≠ [] := fun z => by rw [z] at h1; simp at h1
  unfold figsL at h1 h2 hd hne
  split at hd
  · rename_i c
    rw [if_pos c] at h1 h2 hne
    have ew : w.cps.toList = 45 :: w.cps.toList.drop 1 := by
      have z := List.take_append_drop 1 w.cps.toList
      rw [c] at z
      exact z.symm
    have l61 : w.length ≤ 61 := by
      rw [List.length_drop] at h2
      omega
    refine ⟨_, PySem.intText_neg ew hd hne (by omega), by omega⟩
  · rename_i c
    rw [if_neg c] at h1 h2 hne
    refine ⟨_, PySem.intText_digits hd hne (by omega), by omega⟩
theorem numL_head : ∀ n : Nat, (TL.numL n).take 1 = [48] → n = 0 := fun n => by
  induction n using Nat.strongRecOn with
  | _ n ih =>
    intro h
    by_cases c : n < 10
    · rw [TL.numL_lt c] at h
      have h' : 48 + n = 48 := by simpa using h
      omega
    · exfalso
      rw [TL.numL_step (by omega)] at h
      have hne := TL.numL_ne (n / 10)
      have h2 : (TL.numL (n / 10)).take 1 = [48] := by
        cases q : TL.numL (n / 10) with
        | nil => exact absurd q hne
        | cons a l => rw [q] at h; simpa using h
      have := ih (n / 10) (by omega) h2
      omega
theorem itx_nat (n : Nat) : TL.tl (Str.ofString (toString ((n : Nat) : Int))) = TL.numL n := TL.tl_num n
theorem itx_neg {a : Int} (h : a < 0) : TL.tl (Str.ofString (toString a)) = 45 :: TL.tl (Str.ofString (toString (0 - a))) := by
  rw [PyProof.Rows.toString_neg h, TL.tl_ofString, TL.tl_ofString, String.toList_append, List.map_append]
  rfl
theorem itx_tl (n : Int) : TL.tl (itx n) = if n < 0 then 45 :: TL.numL n.natAbs else TL.numL n.natAbs := by
  split
  · rename_i h
    rw [itx_neg h, show 0 - n = ((n.natAbs : Nat) : Int) by omega, itx_nat]
  · rename_i h
    have z := itx_nat n.natAbs
    rw [show ((n.natAbs : Nat) : Int) = n by omega] at z
    exact z
theorem figs_itx (n : Int) : figsL (TL.tl (itx n)) = TL.numL n.natAbs := by
  rw [itx_tl]
  unfold figsL
  split
  · rfl
  · rename_i h
    rw [if_neg fun z => ?_]
    cases q : TL.numL n.natAbs with
    | nil => exact TL.numL_ne _ q
    | cons a l =>
      rw [q] at z
      have z' : a = 45 := by simpa using z
      have d := TL.numL_digits n.natAbs a (by rw [q]; simp)
      omega
theorem numV_itx {n : Int} (h : n.natAbs < 10 ^ 60) : numV (itx n) = some n := by
  have ef : figsL (itx n).cps.toList = TL.numL n.natAbs := figs_itx n
  have hl := TL.numL_len (k := 60) (by decide) h
  have hne := TL.numL_ne n.natAbs
  have hd := TL.numL_digits n.natAbs
  have l1 : 1 ≤ (TL.numL n.natAbs).length := List.length_pos_iff.mpr hne
  have ok : numOk (itx n) = true := by
    unfold numOk
    rw [ef, decide_eq_true ⟨l1, hl⟩, List.all_eq_true.mpr fun c hc => fig_dig.mpr (hd c hc)]
    by_cases c : (TL.numL n.natAbs).take 1 = [48]
    · have e := numL_head _ c
      have e0 : n = 0 := by omega
      subst e0
      have w0 : itx 0 = "0" := by decide +kernel
      rw [w0]
      simp
    · rw [decide_eq_false c]
      rfl
  unfold numV
  rw [ok, if_pos rfl]
  have tl := itx_tl n
  have wl : (itx n).length = (TL.tl (itx n)).length := TL.len_tl _
  by_cases c : n < 0
  · rw [if_pos c] at tl
    have z := PySem.intText_neg (x := itx n) tl hd hne (by rw [wl, tl, List.length_cons]; omega)
    rw [z, TL.numL_val]
    congr 1
    omega
  · rw [if_neg c] at tl
    have tl' : (itx n).cps.toList = TL.numL n.natAbs := tl
    have z := PySem.intText_digits (x := itx n) (by rw [tl']; exact hd) (by rw [tl']; exact hne) (by rw [wl, tl]; omega)
    rw [z, tl', TL.numL_val]
    congr 1
    omega
theorem pow_ok1 : dPow (.int 10) (.int 18) = .ok (.int 1000000000000000000) := dPow_ok (k := 18) (by decide) (by decide)
theorem range60 : dRange1 (.int 60) = .ok ((List.range 60).map fun (i : Nat) => D.int i) := dRange1_nat (n := 60) (by decide)
theorem len60 : ((List.range 60).map fun (i : Nat) => D.int i).length = 60 := by simp
theorem numbers_in (s m : D) (c : Option D) : ∀ (js : List D) (acc : List Int) (rest : Int) (seed : Option D) (k : Option D), acc.length + js.length ≤ 200000 → Drawn acc → ∃ acc' rest' k',
    forL (.one 6) b_numbers_L_1 js [some s, some m, some (.lst (acc.map D.int)), seed, c, some (.int rest), k] = .nx [some s, some m, some (.lst (acc'.map D.int)), seed, c, some (.int rest'), k'] ∧ acc'.length ≤ acc.length + js.length ∧ Drawn acc'
  | [], acc, rest, seed, k, h1, h2 => ⟨acc, rest, k, rfl, by simp, h2⟩
  | j :: js, acc, rest, seed, k, h1, h2 => by
    rw [List.length_cons] at h1
    by_cases hr : 0 < rest
    · have f := fmod_pos (a := rest) (b := 1013) (by decide)
      obtain ⟨acc', rest', k', e1, e2, e3⟩ := numbers_in s m c js (acc ++ [rest.fmod 1013]) (rest.fdiv 1013) seed (some j) (by simp; omega) (h2.snoc f.1 (by omega))
      refine ⟨acc', rest', k', ?_, by simp at e2; rw [List.length_cons]; omega, e3⟩
      have hz : acc.length < szL := by exact lt_szL (by omega)
      have b : b_numbers_L_1 [some s, some m, some (.lst (acc.map D.int)), seed, c, some (.int rest), some j] = .nx [some s, some m, some (.lst ((acc ++ [rest.fmod 1013]).map D.int)), seed, c, some (.int (rest.fdiv 1013)), some j] := by
        simp [b_numbers_L_1, hr, hz]
      rw [← e1]
      simp [forL, b]
    · obtain ⟨acc', rest', k', e1, e2, e3⟩ := numbers_in s m c js acc rest seed (some j) (by omega) h2
      refine ⟨acc', rest', k', ?_, by rw [List.length_cons]; omega, e3⟩
      have b : b_numbers_L_1 [some s, some m, some (.lst (acc.map D.int)), seed, c, some (.int rest), some j] = .nx [some s, some m, some (.lst (acc.map D.int)), seed, c, some (.int rest), some j] := by
        simp [b_numbers_L_1, hr]
      rw [← e1]
      simp [forL, b]
theorem numbers_s1 (seed d : Int) (s m a x k : Option D) (hmul : mulOk seed 40014 = true) : mSet 3 (gBin dMod (gBin dAdd (gBin dAdd (gBin dMul (gVar 3) (gC (.int 40014))) (gBin dMod (gVar 4) (gC (.int 999983)))) (gC (.int 29))) (gC (.int 2147483563))) [s, m, a, some (.int seed), some (.int d), x, k] =
    .nx [s, m, a, some (.int ((seed * 40014 + d.fmod 999983 + 29).fmod 2147483563)), some (.int d), x, k] := by
  simp [hmul]
theorem numbers_s2 (d C18 : Int) (s m a sd x k : Option D) (p18 : dPow (.int 10) (.int 18) = .ok (.int C18)) : mSet 5 (gBin dSub (gVar 4) (gBin dPow (gC (.int 10)) (gC (.int 18)))) [s, m, a, sd, some (.int d), x, k] = .nx [s, m, a, sd, some (.int d), some (.int (d - C18)), k] := by
  simp [p18]
theorem numbers_s3 (d x : Int) (s m sd k : Option D) (acc : List Int) (hz : acc.length < szL) : mIf (gTest (gBin dLt (gVar 5) (gC (.int 0)))) (mSeq (mApp 2 (gBin dMod (gVar 4) (gC (.int 9967)))) mNil) mNil [s, m, some (.lst (acc.map D.int)), sd, some (.int d), some (.int x), k] =
    .nx [s, m, some (.lst ((if x < 0 then acc ++ [d.fmod 9967] else acc).map D.int)), sd, some (.int d), some (.int x), k] := by
  by_cases h : x < 0 <;> simp [h, hz]
theorem numbers_step (s m : D) (acc : List Int) (seed d : Int) (x k : Option D) (hmul : mulOk seed 40014 = true) (hz : acc.length < szL) (h2 : Drawn acc) (fd : 0 ≤ d.fmod 9967 ∧ d.fmod 9967 < 9967) :
    ∃ acc1, acc1.length ≤ acc.length + 1 ∧ Drawn acc1 ∧ ∀ a1 r1 k1, forL (.one 6) b_numbers_L_1 (((List.range 60).map fun (i : Nat) => D.int i)) [some s, some m, some (.lst (acc1.map D.int)), some (.int ((seed * 40014 + d.fmod 999983 + 29).fmod 2147483563)), some (.int d), some (.int (d - 1000000000000000000)), k] = .nx [some s, some m, some (.lst (List.map D.int a1)), some (.int ((seed * 40014 + d.fmod 999983 + 29).fmod 2147483563)), some (.int d), some (.int r1), k1] →
        b_numbers_L_2 [some s, some m, some (.lst (acc.map D.int)), some (.int seed), some (.int d), x, k] = .nx [some s, some m, some (.lst (List.map D.int a1)), some (.int ((seed * 40014 + d.fmod 999983 + 29).fmod 2147483563)), some (.int d), some (.int r1), k1] := by
  refine ⟨if d - 1000000000000000000 < 0 then acc ++ [d.fmod 9967] else acc, ?_, ?_, fun a1 r1 k1 e1 => ?_⟩
  · split <;> simp
  · split
    · exact h2.snoc fd.1 fd.2
    · exact h2
  · unfold b_numbers_L_2
    rw [seq_nx (numbers_s1 _ _ _ _ _ _ _ hmul), seq_nx (numbers_s2 _ _ _ _ _ _ _ _ pow_ok1), seq_nx (numbers_s3 _ _ _ _ _ _ _ hz)]
    have e2 : mFor (gRange1 (gC (.int 60))) (.one 6) b_numbers_L_1 [some s, some m, some (.lst ((if d - 1000000000000000000 < 0 then acc ++ [d.fmod 9967] else acc).map D.int)), some (.int ((seed * 40014 + d.fmod 999983 + 29).fmod 2147483563)), some (.int d), some (.int (d - 1000000000000000000)), k] = .nx [some s, some m, some (.lst (List.map D.int a1)), some (.int ((seed * 40014 + d.fmod 999983 + 29).fmod 2147483563)), some (.int d), some (.int r1), k1] := by
      show onR (dRange1 (.int 60)) _ _ = _
      rw [range60]
      exact e1
    rw [seq_nx e2]
    rfl
theorem numbers_out (s m : D) : ∀ (ds : List Int) (acc : List Int) (seed : Int) (c x k : Option D), acc.length + 61 * ds.length ≤ 100000 → Drawn acc → 0 ≤ seed → seed < 2147483563 → ∃ acc' seed' c' x' k',
    forL (.one 4) b_numbers_L_2 (ds.map D.int) [some s, some m, some (.lst (acc.map D.int)), some (.int seed), c, x, k] =
      .nx [some s, some m, some (.lst (acc'.map D.int)), some (.int seed'), c', x', k'] ∧ acc'.length ≤ acc.length + 61 * ds.length ∧ Drawn acc' ∧ 0 ≤ seed' ∧ seed' < 2147483563
  | [], acc, seed, c, x, k, h1, h2, h3, h4 => ⟨acc, seed, c, x, k, rfl, by simp, h2, h3, h4⟩
  | d :: ds, acc, seed, c, x, k, h1, h2, h3, h4 => by
    rw [List.length_cons] at h1
    have fs := fmod_pos (a := seed * 40014 + d.fmod 999983 + 29) (b := 2147483563) (by decide)
    have fd := fmod_pos (a := d) (b := 9967) (by decide)
    have hmul : mulOk seed 40014 = true := mulOk_right (by decide) (by decide)
    have hz : acc.length < szL := by exact lt_szL (by omega)
    obtain ⟨acc1, l1, d1, kk⟩ := numbers_step s m acc seed d x k hmul hz h2 fd
    obtain ⟨a1, r1, k1, e1, e2, e3⟩ := numbers_in s m (some (.int d)) (((List.range 60).map fun (i : Nat) => D.int i)) acc1 (d - 1000000000000000000) (some (.int ((seed * 40014 + d.fmod 999983 + 29).fmod 2147483563))) k (by rw [len60]; omega) d1
    rw [len60] at e2
    obtain ⟨a2, s2, c2, x2, k2, f1, f2, f3, f4, f5⟩ := numbers_out s m ds a1 _ (some (.int d)) (some (.int r1)) k1 (by omega) e3 fs.1 fs.2
    refine ⟨a2, s2, c2, x2, k2, ?_, by rw [List.length_cons]; omega, f3, f4, f5⟩
    rw [← f1]
    have b := kk a1 r1 k1 e1
    show (match b_numbers_L_2 [some s, some m, some (.lst (acc.map D.int)), some (.int seed), some (.int d), x, k] with
      | .nx r' => forL (.one 4) b_numbers_L_2 (ds.map D.int) r'
      | o => o) = _
    rw [b]
theorem sIx_hi (n k : Nat) : HT.sIx n n (some (k : Int)) = min k n := HT.sIx_nat n n k
theorem numbers_ok (ns : List Int) (hn : ns.length ≤ 63) (many : Nat) (hm : many ≤ 2000) : ∃ l : List Int, f_numbers_L [.scr ns, .int many] = .ok (.lst (l.map D.int)) ∧ l.length = many ∧ Drawn l := by
  have hc : (cutL ns none (some 63)).length ≤ 63 := by
    unfold cutL
    rw [List.length_take, List.length_drop]
    omega
  obtain ⟨a1, s1, c1, x1, k1, e1, e2, e3, e4, e5⟩ := numbers_out (.scr ns) (.int many) (cutL ns none (some 63)) [] 59 none none none (by simp; omega) (fun d hd => nomatch hd) (by decide) (by decide)
  rw [List.length_nil] at e2
  -- the filling up
  obtain ⟨r', w1, ⟨acc, seed, rfl, w2, w3, w4, w5⟩, w6⟩ := whileL_inv (fun r => ∃ (acc : List Int) (seed : Int), r = [some (.scr ns), some (.int many), some (.lst (acc.map D.int)), some (.int seed), c1, x1, k1] ∧ acc.length ≤ 6000 ∧ Drawn acc ∧ 0 ≤ seed ∧ seed < 2147483629)
    (fun r => match r with
      | [_, _, some (.lst a), _, _, _, _] => many - a.length
      | _ => 0) (tc := gTest (gBin dLt (gCall fLen (gCons (gVar 2) gNil)) (gVar 1))) (mb := b_numbers_L_3) (fun r ⟨acc, seed, e, h1, h2, h3, h4⟩ => by
      subst e
      refine ⟨decide ((acc.length : Int) < many), by simp, fun hb => ?_⟩
      have hb' : acc.length < many := by
        have := of_decide_eq_true hb
        omega
      have m1 : mulOk seed seed = true := mulOk_left (by omega) (by omega)
      have m2 : mulOk 52774 seed = true := mulOk_left (by decide) (by decide)
      have m3 : mulOk 13 (acc.length : Int) = true := mulOk_left (by decide) (by decide)
      have hz : acc.length < szL := by exact lt_szL (by omega)
      have f1 := fmod_pos (a := seed * seed + 52774 * seed + 13 * acc.length + 7) (b := 2147483629) (by decide)
      have f2 := fmod_pos (a := ((seed * seed + 52774 * seed + 13 * acc.length + 7).fmod 2147483629).fdiv 1019) (b := 9967) (by decide)
      refine ⟨[some (.scr ns), some (.int many), some (.lst ((acc ++ [(((seed * seed + 52774 * seed + 13 * acc.length + 7).fmod 2147483629).fdiv 1019).fmod 9967]).map D.int)), some (.int ((seed * seed + 52774 * seed + 13 * acc.length + 7).fmod 2147483629)), c1, x1, k1], ?_, ⟨_, _, rfl, by simp; omega, h2.snoc f2.1 f2.2, f1.1, f1.2⟩, ?_⟩
      · simp [b_numbers_L_3, m1, m2, m3, hz]
      · simp
        omega) WB [some (.scr ns), some (.int many), some (.lst (a1.map D.int)), some (.int s1), c1, x1, k1] ⟨a1, s1, rfl, by omega, e3, e4, by omega⟩ (by
      rw [WB_eq]
      show many - _ < 100000
      omega)
  have w7 : ¬ acc.length < many := by
    simp at w6
    omega
  refine ⟨acc.take many, ?_, by rw [List.length_take]; omega, fun d hd => w3 d (List.mem_of_mem_take hd)⟩
  have hcut : cutL (acc.map D.int) none (some (many : Int)) = (acc.take many).map D.int := by
    unfold cutL
    rw [HT.sIx_none, sIx_hi, List.drop_zero, Nat.sub_zero, List.map_take, List.length_map, Nat.min_eq_left (by omega)]
  have e1' : forL (.one 4) b_numbers_L_2 ((cutL ns none (some 63)).map D.int) [some (.scr ns), some (.int (many : Int)), some (.lst []), some (.int 59), none, none, none] = _ := e1
  simp [f_numbers_L, m_numbers_L, e1', w1, hcut, le_szL (n := 0) (by decide)]

theorem itx_lenR {n : Int} (h : n.natAbs < 10 ^ 60) : (itx n).length ≤ 61 := by
  have z := numV_itx h
  unfold numV at z
  split at z
  · rename_i c
    unfold numOk at c
    rw [Bool.and_eq_true, Bool.and_eq_true] at c
    have l := (of_decide_eq_true c.1.1).2
    show (itx n).cps.size ≤ 61
    rw [← Array.length_toList]
    unfold figsL at l
    split at l
    · rw [List.length_drop] at l
      omega
    · omega
  · cases z
theorem joinL_len (s : List Nat) : ∀ xs : List (List Nat), (TL.joinL s xs).length ≤ (xs.map (·.length)).sum + xs.length * s.length
  | [] => by simp [TL.joinL]
  | [x] => by simp [TL.joinL]
  | x :: y :: r => by
    have ih := joinL_len s (y :: r)
    show (x ++ (s ++ TL.joinL s (y :: r))).length ≤ _
    rw [List.length_append, List.length_append]
    simp only [List.map_cons, List.sum_cons, List.length_cons] at ih ⊢
    have e : (r.length + 1 + 1) * s.length = (r.length + 1) * s.length + s.length := Nat.succ_mul _ _
    omega
theorem sum_leR {α : Type} (f : α → Nat) (B : Nat) : ∀ (l : List α), (∀ x ∈ l, f x ≤ B) → (l.map f).sum ≤ l.length * B
  | [], _ => by simp
  | x :: l, h => by
    have a := h x List.mem_cons_self
    have b := sum_leR f B l fun z hz => h z (List.mem_cons_of_mem _ hz)
    rw [List.map_cons, List.sum_cons, List.length_cons, Nat.succ_mul]
    omega
theorem txt_lenR {d : Deed} (h : ReadOk d) : (txtOf d).length ≤ 50000 := by
  have e : (txtOf d).length = (TL.joinL [32] ((wordsOf d).map TL.tl)).length := by
    rw [TL.len_tl]
    unfold txtOf
    rw [TL.join_eq, TL.tl_join]
    rfl
  have j := joinL_len [32] ((wordsOf d).map TL.tl)
  have s := sum_leR (fun x : Str => (TL.tl x).length) 61 (wordsOf d) fun y hy => by
    show (TL.tl y).length ≤ 61
    rw [← TL.len_tl]
    unfold wordsOf at hy
    rcases List.mem_cons.mp hy with e | hy
    · rw [e]
      exact (by decide +kernel : ∀ w ∈ (["build", "shut", "walk", "put", "take", "mirror", "lay", "late", "strike"] : List Str), w.length ≤ 61) _ (by cases d <;> simp [wordOf])
    · rcases List.mem_cons.mp hy with e | hy
      · rw [e]; have := nameOk_len h.road; omega
      · obtain ⟨p, hp, rfl⟩ := List.mem_map.mp hy
        have r := h.all p hp
        cases p with
        | n i => exact itx_lenR r
        | x s => have := nameOk_len (show nameOk s = true from r); show s.length ≤ 61; omega
  have l : (wordsOf d).length ≤ 502 := by unfold wordsOf; have := h.len; simp; omega
  rw [e]
  rw [List.map_map, List.length_map] at j
  have s' : ((wordsOf d).map ((fun x => x.length) ∘ TL.tl)).sum ≤ (wordsOf d).length * 61 := s
  have e1 : ([32] : List Nat).length = 1 := rfl
  rw [e1] at j
  omega
/-- what the program makes of a word, of any length -/
theorem num_any (w : Str) (hw : (PyData.str w).canLay0 = true) (hl : w.length ≤ 1000000) : f_number_in [.str w] = match numV w with
    | some n => .ok (.int n)
    | none => .exc txtBad := by
  have hz : w.length ≤ szL := le_szL (by omega)
  -- the figures
  obtain ⟨F, eF, zF, st1⟩ : ∃ F : Str, F.cps.toList = figsL w.cps.toList ∧ F.length ≤ w.length ∧ gIf (gTest (gBin dEq (gSl (gVar 0) gNoPart (gPart (gC (.int 1)))) (gC (.str "-")))) (gSl (gVar 0) (gPart (gC (.int 1))) gNoPart) (gVar 0) [some (.str w), none, none] = .ok (.str F) := by
    have c1 := cut_1 w
    have eq := eq_str (cutS w none (some 1)) "-" (lay_of hw fun c hc => by rw [c1] at hc; exact List.mem_of_mem_take hc) (by decide +kernel)
    rw [str_eqL, c1, show ("-" : Str).cps.toList = [45] from figs_45] at eq
    by_cases c : w.cps.toList.take 1 = [45]
    · rw [decide_eq_true c] at eq
      refine ⟨cutS w (some 1) none, by rw [cut_from1]; unfold figsL; rw [if_pos c], cutS_length _ _ _, ?_⟩
      simp [hz, eq]
    · rw [decide_eq_false c] at eq
      refine ⟨w, by unfold figsL; rw [if_neg c], Nat.le_refl _, ?_⟩
      simp [hz, eq]
  have zF' : F.length ≤ szL := Nat.le_trans zF hz
  have lF : (figsL w.cps.toList).length = F.length := by rw [← eF]; simp [Str.length]
  obtain ⟨cp, fa⟩ := all_figs F zF' (some (.str w)) none
  have t1 : mSet 1 (gIf (gTest (gBin dEq (gSl (gVar 0) gNoPart (gPart (gC (.int 1)))) (gC (.str "-")))) (gSl (gVar 0) (gPart (gC (.int 1))) gNoPart) (gVar 0)) [some (.str w), none, none] = .nx [some (.str w), some (.str F), none] := by
    unfold mSet
    rw [st1]
    rfl
  show outF (m_number_in [some (.str w), none, none]) = _
  unfold m_number_in
  rw [seq_nx t1]
  unfold numV
  have nk : numOk w = (decide (1 ≤ F.length ∧ F.length ≤ 60) && F.cps.toList.all figB && !(decide (F.cps.toList.take 1 = [48]) && decide (w ≠ "0"))) := by
    unfold numOk
    rw [lF, ← eF]
  rw [nk]
  clear st1 t1 nk
  generalize hA : F.cps.toList.all figB = A at *
  generalize F.cps.toList.map (fun c => D.bl (figB c)) = fl at *
  by_cases c0 : 1 ≤ F.length
  · by_cases c1 : F.length ≤ 60
    · have g1 : (1 : Int) ≤ F.length := by omega
      have g2 : (F.length : Int) ≤ 60 := by omega
      obtain ⟨ch, l, el⟩ : ∃ ch l, F.cps.toList = ch :: l := by
        cases q : F.cps.toList with
        | nil =>
          exfalso
          have z : F.length = 0 := by
            show F.cps.size = 0
            rw [← Array.length_toList, q]
            rfl
          omega
        | cons ch l => exact ⟨ch, l, rfl⟩
      have ix := idx_0 F ch l el zF'
      have layF : (PyData.str F).canLay0 = true := lay_of hw fun c hc => by
        rw [eF] at hc
        unfold figsL at hc
        split at hc
        · exact List.mem_of_mem_drop hc
        · exact hc
      have e0 := eq_str ⟨#[ch]⟩ "0" (lay_of layF fun c hc => by rw [el]; exact List.mem_cons.mpr (.inl (by simpa using hc))) (by decide +kernel)
      rw [str_eqL, show ("0" : Str).cps.toList = [48] from figs_48] at e0
      have n0 : dNe (.str w) (.str "0") = .ok (.bl (decide (w ≠ "0"))) := by
        have z := eq_str w "0" hw (by decide +kernel)
        unfold dEq at z
        unfold dNe
        split at z
        · rename_i h
          rw [if_pos h]
          have z' := D.bl.inj (R.ok.inj z)
          rw [z']
          congr 2
          rw [Bool.eq_iff_iff]
          simp
        · cases z
      cases A with
      | true =>
        by_cases c3 : ch = 48
        · subst c3
          have e0' : dEq (.str ⟨#[48]⟩) (.str "0") = .ok (.bl true) := by rw [e0]; rfl
          by_cases c4 : w = "0"
          · rw [decide_eq_false (show ¬ w ≠ "0" from fun z => z c4)] at n0
            obtain ⟨n, en, wl⟩ := figs_int w (by rw [lF]; omega) (by rw [lF]; omega) (by rw [← eF]; exact hA)
            have fi : fInt [.str w] = .ok (.int n) := by
              show (if w.length ≤ 640 then (match PySem.intText? w with
                | some n => R.ok (D.int n)
                | none => .stuck) else .stuck) = _
              rw [if_pos wl, en]
            rw [if_pos (by rw [decide_eq_true ⟨c0, c1⟩, decide_eq_false (show ¬ w ≠ "0" from fun z => z c4)]; simp), en]
            simp [zF', g1, g2, cp, fa, ix, e0', n0, fi, outF, -dIdx, -fAll, -fInt]
          · rw [decide_eq_true c4] at n0
            simp [zF', g1, g2, cp, fa, ix, e0', n0, c0, c1, el, c4, outF, -dIdx, -fAll]
        · have e0' : dEq (.str ⟨#[ch]⟩) (.str "0") = .ok (.bl false) := by
            rw [e0]
            have : ¬ (⟨#[ch]⟩ : Str).cps.toList = [48] := by simpa using c3
            rw [decide_eq_false this]
          obtain ⟨n, en, wl⟩ := figs_int w (by rw [lF]; omega) (by rw [lF]; omega) (by rw [← eF]; exact hA)
          have fi : fInt [.str w] = .ok (.int n) := by
            show (if w.length ≤ 640 then (match PySem.intText? w with
              | some n => R.ok (D.int n)
              | none => .stuck) else .stuck) = _
            rw [if_pos wl, en]
          rw [if_pos (by rw [decide_eq_true ⟨c0, c1⟩, el]; simp [c3]), en]
          simp [zF', g1, g2, cp, fa, ix, e0', fi, outF, -dIdx, -fAll, -fInt]
      | false =>
        simp [zF', g1, g2, cp, fa, c0, c1, outF, -dIdx, -fAll]
    · have g1 : (1 : Int) ≤ F.length := by omega
      have g2 : ¬ (F.length : Int) ≤ 60 := by omega
      simp [zF', g1, g2, c0, c1, outF]
  · have g1 : ¬ (1 : Int) ≤ F.length := by omega
    simp [zF', g1, c0, outF]

/-- what the law makes of a word -/
theorem num_lawX (w : Str) (hw : (PyData.str w).canLay0 = true) (hl : w.length ≤ 1000000) : f_number_L [.str w] = match numV w with
    | some n => .ok (.int n)
    | none => .ok .non := by
  have hz : w.length ≤ szL := le_szL (by omega)
  -- the figures
  obtain ⟨F, eF, zF, st1⟩ : ∃ F : Str, F.cps.toList = figsL w.cps.toList ∧ F.length ≤ w.length ∧ gIf (gTest (gBin dEq (gSl (gVar 0) gNoPart (gPart (gC (.int 1)))) (gC (.str "-")))) (gSl (gVar 0) (gPart (gC (.int 1))) gNoPart) (gVar 0) [some (.str w), none, none] = .ok (.str F) := by
    have c1 := cut_1 w
    have eq := eq_str (cutS w none (some 1)) "-" (lay_of hw fun c hc => by rw [c1] at hc; exact List.mem_of_mem_take hc) (by decide +kernel)
    rw [str_eqL, c1, show ("-" : Str).cps.toList = [45] from figs_45] at eq
    by_cases c : w.cps.toList.take 1 = [45]
    · rw [decide_eq_true c] at eq
      refine ⟨cutS w (some 1) none, by rw [cut_from1]; unfold figsL; rw [if_pos c], cutS_length _ _ _, ?_⟩
      simp [hz, eq]
    · rw [decide_eq_false c] at eq
      refine ⟨w, by unfold figsL; rw [if_neg c], Nat.le_refl _, ?_⟩
      simp [hz, eq]
  have zF' : F.length ≤ szL := Nat.le_trans zF hz
  have lF : (figsL w.cps.toList).length = F.length := by rw [← eF]; simp [Str.length]
  obtain ⟨cp, fa⟩ := all_figs F zF' (some (.str w)) none
  have t1 : mSet 1 (gIf (gTest (gBin dEq (gSl (gVar 0) gNoPart (gPart (gC (.int 1)))) (gC (.str "-")))) (gSl (gVar 0) (gPart (gC (.int 1))) gNoPart) (gVar 0)) [some (.str w), none, none] = .nx [some (.str w), some (.str F), none] := by
    unfold mSet
    rw [st1]
    rfl
  show outF (m_number_L [some (.str w), none, none]) = _
  unfold m_number_L
  rw [seq_nx t1]
  unfold numV
  have nk : numOk w = (decide (1 ≤ F.length ∧ F.length ≤ 60) && F.cps.toList.all figB && !(decide (F.cps.toList.take 1 = [48]) && decide (w ≠ "0"))) := by
    unfold numOk
    rw [lF, ← eF]
  rw [nk]
  clear st1 t1 nk
  generalize hA : F.cps.toList.all figB = A at *
  generalize F.cps.toList.map (fun c => D.bl (figB c)) = fl at *
  by_cases c0 : 1 ≤ F.length
  · by_cases c1 : F.length ≤ 60
    · have g1 : (1 : Int) ≤ F.length := by omega
      have g2 : (F.length : Int) ≤ 60 := by omega
      obtain ⟨ch, l, el⟩ : ∃ ch l, F.cps.toList = ch :: l := by
        cases q : F.cps.toList with
        | nil =>
          exfalso
          have z : F.length = 0 := by
            show F.cps.size = 0
            rw [← Array.length_toList, q]
            rfl
          omega
        | cons ch l => exact ⟨ch, l, rfl⟩
      have ix := idx_0 F ch l el zF'
      have layF : (PyData.str F).canLay0 = true := lay_of hw fun c hc => by
        rw [eF] at hc
        unfold figsL at hc
        split at hc
        · exact List.mem_of_mem_drop hc
        · exact hc
      have e0 := eq_str ⟨#[ch]⟩ "0" (lay_of layF fun c hc => by rw [el]; exact List.mem_cons.mpr (.inl (by simpa using hc))) (by decide +kernel)
      rw [str_eqL, show ("0" : Str).cps.toList = [48] from figs_48] at e0
      have n0 : dNe (.str w) (.str "0") = .ok (.bl (decide (w ≠ "0"))) := by
        have z := eq_str w "0" hw (by decide +kernel)
        unfold dEq at z
        unfold dNe
        split at z
        · rename_i h
          rw [if_pos h]
          have z' := D.bl.inj (R.ok.inj z)
          rw [z']
          congr 2
          rw [Bool.eq_iff_iff]
          simp
        · cases z
      cases A with
      | true =>
        by_cases c3 : ch = 48
        · subst c3
          have e0' : dEq (.str ⟨#[48]⟩) (.str "0") = .ok (.bl true) := by rw [e0]; rfl
          by_cases c4 : w = "0"
          · rw [decide_eq_false (show ¬ w ≠ "0" from fun z => z c4)] at n0
            obtain ⟨n, en, wl⟩ := figs_int w (by rw [lF]; omega) (by rw [lF]; omega) (by rw [← eF]; exact hA)
            have fi : fInt [.str w] = .ok (.int n) := by
              show (if w.length ≤ 640 then (match PySem.intText? w with
                | some n => R.ok (D.int n)
                | none => .stuck) else .stuck) = _
              rw [if_pos wl, en]
            rw [if_pos (by rw [decide_eq_true ⟨c0, c1⟩, decide_eq_false (show ¬ w ≠ "0" from fun z => z c4)]; simp), en]
            simp [zF', g1, g2, cp, fa, ix, e0', n0, fi, outF, -dIdx, -fAll, -fInt]
          · rw [decide_eq_true c4] at n0
            simp [zF', g1, g2, cp, fa, ix, e0', n0, c0, c1, el, c4, outF, -dIdx, -fAll]
        · have e0' : dEq (.str ⟨#[ch]⟩) (.str "0") = .ok (.bl false) := by
            rw [e0]
            have : ¬ (⟨#[ch]⟩ : Str).cps.toList = [48] := by simpa using c3
            rw [decide_eq_false this]
          obtain ⟨n, en, wl⟩ := figs_int w (by rw [lF]; omega) (by rw [lF]; omega) (by rw [← eF]; exact hA)
          have fi : fInt [.str w] = .ok (.int n) := by
            show (if w.length ≤ 640 then (match PySem.intText? w with
              | some n => R.ok (D.int n)
              | none => .stuck) else .stuck) = _
            rw [if_pos wl, en]
          rw [if_pos (by rw [decide_eq_true ⟨c0, c1⟩, el]; simp [c3]), en]
          simp [zF', g1, g2, cp, fa, ix, e0', fi, outF, -dIdx, -fAll, -fInt]
      | false =>
        simp [zF', g1, g2, cp, fa, c0, c1, outF, -dIdx, -fAll]
    · have g1 : (1 : Int) ≤ F.length := by omega
      have g2 : ¬ (F.length : Int) ≤ 60 := by omega
      simp [zF', g1, g2, c0, c1, outF]
  · have g1 : ¬ (1 : Int) ≤ F.length := by omega
    simp [zF', g1, c0, outF]

theorem is_name_any (x : Str) (hx : x.length ≤ 1000000) : f_is_name [.str x] = .ok (.bl (nameOk x)) := by
  have hz : x.length ≤ szL := le_szL (by omega)
  have cp : ∀ a, gComp (gIter (gVar 0)) (.one 1) [1] gYes (gBin dIn (gVar 1) (gC (.str "abcdefghijklmnopqrstuvwxyz"))) [some (.str x), a] = .ok (.lst (x.cps.toList.map fun c => D.bl (decide (c ∈ letters.cps.toList)))) := fun a => by
    refine gComp_map (l := x.cps.toList) (F := fun c => D.str ⟨#[c]⟩) (G := fun c => D.bl (decide (c ∈ letters.cps.toList))) ?_ fun c _ => ?_
    · have hz' : x.cps.size ≤ szL := hz
      simp [dIter, hz']
    · simp [gTurn, dIn, letters]
  have fa : fAll [.lst (x.cps.toList.map fun c => D.bl (decide (c ∈ letters.cps.toList)))] = .ok (.bl (x.cps.toList.all fun c => decide (c ∈ letters.cps.toList))) := by
    unfold fAll
    dsimp only
    rw [blsOf_map]
    dsimp only
    rw [List.all_map]
    rfl
  by_cases c1 : (1 : Int) ≤ x.length
  · by_cases c2 : (x.length : Int) ≤ 8
    · have e : nameOk x = x.cps.toList.all fun c => decide (c ∈ letters.cps.toList) := by
        unfold nameOk
        rw [decide_eq_true (show 1 ≤ x.length ∧ x.length ≤ 8 by omega), Bool.true_and]
      rw [e]
      generalize (x.cps.toList.map fun c => D.bl (decide (c ∈ letters.cps.toList))) = L at cp fa
      generalize (x.cps.toList.all fun c => decide (c ∈ letters.cps.toList)) = V at fa ⊢
      simp [f_is_name, m_is_name, hz, c1, c2, cp, fa, -fAll]
    · have e : nameOk x = false := by
        unfold nameOk
        rw [decide_eq_false (show ¬ (1 ≤ x.length ∧ x.length ≤ 8) by omega), Bool.false_and]
      rw [e]
      simp [f_is_name, m_is_name, hz, c1, c2]
  · have e : nameOk x = false := by
      unfold nameOk
      rw [decide_eq_false (show ¬ (1 ≤ x.length ∧ x.length ≤ 8) by omega), Bool.false_and]
    rw [e]
    simp [f_is_name, m_is_name, hz, c1]
theorem name_any (x : Str) (hx : x.length ≤ 1000000) : f_name_in [.str x] = if nameOk x = true then .ok (.str x) else .exc txtBad := by
  have z := is_name_any x hx
  cases q : nameOk x with
  | true => rw [q] at z; simp [f_name_in, m_name_in, z, outF]
  | false => rw [q] at z; simp [f_name_in, m_name_in, z, outF]
theorem is_name_lawX (x : Str) (hx : x.length ≤ 1000000) : f_is_name_L [.str x] = .ok (.bl (nameOk x)) := is_name_any x hx
theorem lay_iff {x : Str} : (PyData.str x).canLay0 = true ↔ ∀ c ∈ TL.tl x, c < 0x110000 := by
  show x.cps.all (· < 0x110000) = true ↔ _
  rw [← Array.all_toList, List.all_eq_true]
  exact ⟨fun h c hc => of_decide_eq_true (h c hc), fun h c hc => decide_eq_true (h c hc)⟩
theorem TxOk.lay {B : Nat} {t : Str} (h : TxOk B t) : (PyData.str t).canLay0 = true := lay_iff.mpr fun c hc => Nat.lt_trans (h.asc c hc) (by decide)
def optAll {α : Type} : List (Option α) → Option (List α)
  | [] => some []
  | some a :: r => (optAll r).map (a :: ·)
  | none :: _ => none
theorem gCompX_map {γ : Type} {gi : Sl → R (List D)} {t : Tg} {vs : List Nat} {tt : Sl → R Bool} {ge : Sl → R D} {r : Sl} {l : List γ} {F : γ → D} {G : γ → Option D} {x : Exc} (h : gi r = .ok (l.map F))
    (hg : ∀ a ∈ l, gTurnX t vs tt ge r (F a) = match G a with
      | some d => .ok (some d)
      | none => .exc x) : gCompX gi t vs tt ge r = match optAll (l.map G) with
    | some ds => .ok (.lst ds)
    | none => .exc x := by
  unfold gCompX
  rw [h]
  show (mapR (gTurnX t vs tt ge r) (l.map F) >>= fun os => R.ok (D.lst (os.filterMap id))) = _
  have key : mapR (gTurnX t vs tt ge r) (l.map F) = match optAll (l.map G) with
      | some ds => .ok (ds.map some)
      | none => .exc x := by
    clear h
    induction l with
    | nil => rfl
    | cons a l ih =>
      have h1 := hg a List.mem_cons_self
      have h2 := ih fun b hb => hg b (List.mem_cons_of_mem _ hb)
      rw [List.map_cons, List.map_cons]
      show (gTurnX t vs tt ge r (F a) >>= fun b => mapR (gTurnX t vs tt ge r) (l.map F) >>= fun bs => R.ok (b :: bs)) = _
      rw [h1, h2]
      cases q : G a with
      | none => rfl
      | some d =>
        show (R.ok (some d) >>= _) = match (optAll (l.map G)).map (d :: ·) with
          | some ds => R.ok (ds.map some)
          | none => .exc x
        cases optAll (l.map G) <;> rfl
  rw [key]
  cases optAll (l.map G) with
  | none => rfl
  | some ds =>
    show R.ok (D.lst ((ds.map some).filterMap id)) = _
    congr 2
    induction ds with
    | nil => rfl
    | cons d ds ih => simp

def partV (w : Str) (k : Nat) : Option D := if k = 110 then (if nameOk w = true then some (.str w) else none) else (numV w).map D.int
def partsV (ws : List Str) (ks : List Nat) : Option (List D) := optAll ((ws.zip ks).map fun p => partV p.1 p.2)
theorem part_any {B : Nat} (hB : B ≤ 1000000) (w : Str) (k : Nat) (h : TxOk B w) : (if k = 110 then f_name_in [.str w] else f_number_in [.str w]) = match partV w k with
    | some d => .ok d
    | none => .exc txtBad := by
  unfold partV
  have hl := Nat.le_trans h.len hB
  by_cases c : k = 110
  · rw [if_pos c, if_pos c, name_any w hl]
    cases nameOk w <;> rfl
  · rw [if_neg c, if_neg c, num_any w h.lay hl]
    cases numV w <;> rfl
theorem kind_str (k : Nat) (hk : k = 110 ∨ k = 105) : dEq (.str ⟨#[k]⟩) (.str "n") = .ok (.bl (decide (k = 110))) := by
  rcases hk with e | e <;> subst e
  · exact (eq_str ⟨#[110]⟩ "n").trans (congrArg _ (congrArg _ (by decide +kernel : ((⟨#[110]⟩ : Str) == "n") = decide ((110 : Nat) = 110))))
  · exact (eq_str ⟨#[105]⟩ "n").trans (congrArg _ (congrArg _ (by decide +kernel : ((⟨#[105]⟩ : Str) == "n") = decide ((105 : Nat) = 110))))
theorem kind_i (k : Nat) (hk : k = 110 ∨ k = 105) : dEq (.str ⟨#[k]⟩) (.str "i") = .ok (.bl (!decide (k = 110))) := by
  rcases hk with e | e <;> subst e
  · exact (eq_str ⟨#[110]⟩ "i").trans (congrArg _ (congrArg _ (by decide +kernel : ((⟨#[110]⟩ : Str) == "i") = !decide ((110 : Nat) = 110))))
  · exact (eq_str ⟨#[105]⟩ "i").trans (congrArg _ (congrArg _ (by decide +kernel : ((⟨#[105]⟩ : Str) == "i") = !decide ((105 : Nat) = 110))))
theorem zipD_map {α β : Type} (f : α → D) (g : β → D) : ∀ (xs : List α) (ys : List β), zipD (xs.map f) (ys.map g) = (xs.zip ys).map fun p => D.tup [f p.1, g p.2] := by
  intro xs ys
  unfold zipD
  rw [List.zip_map, List.map_map]
  rfl
theorem parts_any {B : Nat} (hB : B ≤ 1000000) (ws : List Str) (form : Str) (h : ∀ w ∈ ws, TxOk B w) (hl : ws.length ≤ 1000001) (hf : ∀ k ∈ form.cps.toList, k = 110 ∨ k = 105) (hfl : form.length ≤ 1000) :
    f_parts_in [.lst (ws.map D.str), .str form] = if ws.length = form.length then (match partsV ws form.cps.toList with
      | some ds => .ok (.tup ds)
      | none => .exc txtBad) else .exc txtBad := by
  have hz : form.length ≤ szL := le_szL (by omega)
  have hz' : form.cps.size ≤ szL := hz
  have it : itemsD (.str form) = some (form.cps.toList.map fun k => D.str ⟨#[k]⟩) := by
    unfold itemsD
    dsimp only
    rw [if_pos hz']
  have cp : gCompX (gZipS (gVar 0) (gVar 1)) (.tup [2, 3]) [2, 3] gYes (gIf (gTest (gBin dEq (gVar 3) (gC (.str "n")))) (gCall f_name_in (VL.gCons (gVar 2) VL.gNil)) (gCall f_number_in (VL.gCons (gVar 2) VL.gNil))) [some (.lst (ws.map D.str)), some (.str form), none, none] = match partsV ws form.cps.toList with
      | some ds => .ok (.lst ds)
      | none => .exc txtBad := by
    refine gCompX_map (l := ws.zip form.cps.toList) (F := fun p => D.tup [.str p.1, .str ⟨#[p.2]⟩]) (G := fun p => partV p.1 p.2) ?_ fun p hp => ?_
    · show (match itemsD (.lst _), itemsD (.str _) with
        | some ds, some es => R.ok (zipD ds es)
        | _, _ => .stuck) = _
      rw [it]
      exact congrArg R.ok (zipD_map D.str (fun k => D.str ⟨#[k]⟩) ws form.cps.toList)
    · obtain ⟨w, k⟩ := p
      have hw := h w (List.of_mem_zip hp).1
      have hk := hf k (List.of_mem_zip hp).2
      have z := part_any hB w k hw
      have ke := kind_str k hk
      dsimp only
      by_cases c : k = 110
      · rw [decide_eq_true c] at ke
        rw [if_pos c] at z
        cases q : partV w k with
        | some d => rw [q] at z; simp [gTurnX, noX, Tg.un, ke, z]
        | none => rw [q] at z; simp [gTurnX, noX, Tg.un, ke, z]
      · rw [decide_eq_false c] at ke
        rw [if_neg c] at z
        cases q : partV w k with
        | some d => rw [q] at z; simp [gTurnX, noX, Tg.un, ke, z]
        | none => rw [q] at z; simp [gTurnX, noX, Tg.un, ke, z]
  have fl : fLen [.lst (ws.map D.str)] = .ok (.int (ws.length : Nat)) := by simp [fLen]
  have fl2 : fLen [.str form] = .ok (.int (form.length : Nat)) := by
    show (if _ then R.ok (D.int _) else .stuck) = _
    rw [if_pos hz]
  by_cases c : ws.length = form.length
  · rw [if_pos c]
    have ne : dNe (.int (ws.length : Nat)) (.int (form.length : Nat)) = .ok (.bl false) := by rw [c]; simp
    generalize ws.map D.str = W at *
    cases q : partsV ws form.cps.toList with
    | some ds => rw [q] at cp; simp [f_parts_in, m_parts_in, fl, fl2, ne, cp, outF, -fLen, -dNe_int]
    | none => rw [q] at cp; simp [f_parts_in, m_parts_in, fl, fl2, ne, cp, outF, -fLen, -dNe_int]
  · rw [if_neg c]
    have ne : dNe (.int (ws.length : Nat)) (.int (form.length : Nat)) = .ok (.bl true) := by
      rw [dNe_int]
      congr 2
      simp
      omega
    generalize ws.map D.str = W at *
    simp [f_parts_in, m_parts_in, fl, fl2, ne, outF, -fLen, -dNe_int]
/-- the deed that the words write -/
def buildV : List Str → Option D
  | [] => none
  | w1 :: ns => if nameOk w1 = true then (optAll (ns.map fun w => (numV w).map D.int)).map fun ds => .tup [.str "build", .str w1, .tup ds] else none
def formV (w0 : Str) (rest : List Str) : Option D := match tb_FORMS.lookup w0 with
  | none => none
  | some form => if rest.length = form.length then (partsV rest form.cps.toList).map fun ds => .tup (.str w0 :: ds) else none
def wordV (w0 : Str) (rest : List Str) : Option D := if w0 = "build" ∧ rest ≠ [] then buildV rest else formV w0 rest
def wordsV : List Str → Option D
  | [] => none
  | w0 :: rest => wordV w0 rest
theorem forms_ok {w form : Str} (h : tb_FORMS.lookup w = some form) : (∀ k ∈ form.cps.toList, k = 110 ∨ k = 105) ∧ form.length ≤ 4 ∧ 1 ≤ form.length := by
  have all : ∀ p ∈ tb_FORMS, (∀ k ∈ p.2.cps.toList, k = 110 ∨ k = 105) ∧ p.2.length ≤ 4 ∧ 1 ≤ p.2.length := by decide +kernel
  have mem : ∀ {l : List (Str × Str)}, l.lookup w = some form → ∃ p ∈ l, p.2 = form := by
    intro l
    induction l with
    | nil => intro h; cases h
    | cons p l ih =>
      intro h
      rw [List.lookup_cons] at h
      split at h
      · exact ⟨p, List.mem_cons_self, Option.some.inj h⟩
      · obtain ⟨q, a, b⟩ := ih h
        exact ⟨q, List.mem_cons_of_mem _ a, b⟩
  obtain ⟨p, a, b⟩ := mem h
  rw [← b]
  exact all p a
theorem read_any {B : Nat} (hB : B ≤ 1000000) (t : Str) (h : TxOk B t) : f_read_deed [.str t] = match wordsV (Txt.split t " ") with
    | some d => .ok d
    | none => .exc txtBad := by
  have sp := split_dX h hB
  obtain ⟨hw, hl, hne⟩ := split_words h
  generalize Txt.split t " " = ws at *
  cases ws with
  | nil => exact absurd rfl hne
  | cons w0 rest =>
    have t0 := hw w0 List.mem_cons_self
    have i0 : dIdx (.lst ((w0 :: rest).map D.str)) (.int 0) = .ok (.str w0) := dIdx_list (i := 0) rfl
    have eb := eq_str w0 "build" t0.lay
    have fl : fLen [.lst ((w0 :: rest).map D.str)] = .ok (.int ((rest.length + 1 : Nat) : Int)) := by simp [fLen]
    by_cases c0 : w0 = "build"
    · subst c0
      have eb' : dEq (.str "build") (.str "build") = .ok (.bl true) := eb.trans (by simp)
      cases rest with
      | nil =>
        have gl : ¬ (1 : Int) < ((0 + 1 : Nat) : Int) := by decide
        have go : dGout tb_FORMS (.str "build") = .ok (.bl true) := by
          show R.ok (D.bl (!(tb_FORMS.lookup ("build" : Str)).isSome)) = _
          exact congrArg R.ok (congrArg D.bl (by decide +kernel : (!(tb_FORMS.lookup ("build" : Str)).isSome) = true))
        have wv : wordsV ["build"] = none := by
          show wordV "build" [] = none
          unfold wordV formV
          rw [if_neg (by simp)]
          rw [show tb_FORMS.lookup ("build" : Str) = none from by decide +kernel]
        rw [wv]
        have fl' : fLen [.lst [.str "build"]] = .ok (.int 1) := fl
        have i0' : dIdx (.lst [.str "build"]) (.int 0) = .ok (.str "build") := i0
        have sp' : dSplit (.str t) (.str " ") = .ok (.lst [.str "build"]) := sp
        simp [f_read_deed, m_read_deed, sp', i0', eb', fl', go, outF, -dIdx, -fLen]
      | cons w1 ns =>
        have t1 := hw w1 (by simp)
        have i1 : dIdx (.lst ((("build" : Str) :: w1 :: ns).map D.str)) (.int 1) = .ok (.str w1) := dIdx_list (i := 1) rfl
        have gl : (1 : Int) < (((w1 :: ns).length + 1 : Nat) : Int) := by simp only [List.length_cons]; omega
        have nm := name_any w1 (Nat.le_trans t1.len hB)
        have cp : gCompX (gIter (gSl (gVar 1) (gPart (gC (.int 2))) gNoPart)) (.one 2) [2] gYes (gCall f_number_in (VL.gCons (gVar 2) VL.gNil)) [some (.str t), some (.lst ((("build" : Str) :: w1 :: ns).map D.str)), none] = match optAll (ns.map fun w => (numV w).map D.int) with
            | some ds => .ok (.lst ds)
            | none => .exc txtBad := by
          refine gCompX_map (l := ns) (F := D.str) (G := fun w => (numV w).map D.int) ?_ fun w hw2 => ?_
          · have c2 : cutL ((("build" : Str) :: w1 :: ns).map D.str) (some 2) none = ns.map D.str := by
              rw [show cutL ((("build" : Str) :: w1 :: ns).map D.str) (some 2) none = _ from cutL_fromG (k := 2) rfl]
              rfl
            generalize (("build" : Str) :: w1 :: ns).map D.str = W at *
            simp [c2]
          · have tw := hw w (by simp [hw2])
            have z := num_any w tw.lay (Nat.le_trans tw.len hB)
            cases q : numV w with
            | some n => rw [q] at z; simp [gTurnX, noX, z]
            | none => rw [q] at z; simp [gTurnX, noX, z]
        have s3 : (3 : Nat) ≤ szL := le_szL (by decide)
        have wv : wordsV ("build" :: w1 :: ns) = if nameOk w1 = true then (optAll (ns.map fun w => (numV w).map D.int)).map fun ds => D.tup [.str "build", .str w1, .tup ds] else none := by
          show wordV "build" (w1 :: ns) = _
          unfold wordV
          rw [if_pos (And.intro rfl (by simp))]
          rfl
        rw [wv]
        generalize (("build" : Str) :: w1 :: ns).map D.str = W at *
        generalize (((w1 :: ns).length + 1 : Nat) : Int) = LL at *
        by_cases cn : nameOk w1 = true
        · rw [if_pos cn] at nm ⊢
          cases q : optAll (ns.map fun w => (numV w).map D.int) with
          | some ds => rw [q] at cp; simp [f_read_deed, m_read_deed, sp, i0, i1, eb', fl, gl, nm, cp, s3, outF, -dIdx, -fLen]
          | none => rw [q] at cp; simp [f_read_deed, m_read_deed, sp, i0, i1, eb', fl, gl, nm, cp, s3, outF, -dIdx, -fLen]
        · rw [if_neg cn] at nm ⊢
          simp [f_read_deed, m_read_deed, sp, i0, i1, eb', fl, gl, nm, outF, -dIdx, -fLen]
    · have eb' : dEq (.str w0) (.str "build") = .ok (.bl false) := eb.trans (by rw [beq_eq_false_iff_ne.mpr c0])
      have wv : wordsV (w0 :: rest) = match tb_FORMS.lookup w0 with
          | none => none
          | some form => if rest.length = form.length then (partsV rest form.cps.toList).map fun ds => D.tup (.str w0 :: ds) else none := by
        show wordV w0 rest = _
        unfold wordV
        rw [if_neg (fun z => c0 z.1)]
        rfl
      rw [wv]
      have go : dGout tb_FORMS (.str w0) = .ok (.bl (!(tb_FORMS.lookup w0).isSome)) := rfl
      cases q : tb_FORMS.lookup w0 with
      | none =>
        rw [q] at go
        have go' : dGout tb_FORMS (.str w0) = .ok (.bl true) := go
        generalize (w0 :: rest).map D.str = W at *
        simp [f_read_deed, m_read_deed, sp, i0, eb', go', outF, -dIdx, -fLen]
      | some form =>
        rw [q] at go
        have go' : dGout tb_FORMS (.str w0) = .ok (.bl false) := go
        have gx : dGix tb_FORMS (.str w0) = .ok (.str form) := by
          show (match tb_FORMS.lookup w0 with
            | some y => R.ok (D.str y)
            | none => .stuck) = _
          rw [q]
        obtain ⟨f1, f2, f3⟩ := forms_ok q
        have pa := parts_any hB rest form (fun w hw2 => hw w (List.mem_cons_of_mem _ hw2)) (by simp only [List.length_cons] at hl; omega) f1 (by omega)
        have c1 : cutL ((w0 :: rest).map D.str) (some 1) none = rest.map D.str := by
          rw [show cutL ((w0 :: rest).map D.str) (some 1) none = _ from cutL_fromG (k := 1) rfl]
          rfl
        have s1 : (1 : Nat) ≤ szL := le_szL (by decide)
        dsimp only
        generalize (w0 :: rest).map D.str = W at *
        by_cases cl : rest.length = form.length
        · rw [if_pos cl] at pa ⊢
          cases qp : partsV rest form.cps.toList with
          | none =>
            rw [qp] at pa
            simp [f_read_deed, m_read_deed, sp, i0, eb', go', gx, c1, pa, s1, outF, -dIdx, -fLen, -dAdd]
          | some ds =>
            rw [qp] at pa
            have dl : ds.length ≤ 1000 := by
              have aux : ∀ (l : List (Option D)) (ds : List D), optAll l = some ds → ds.length = l.length := by
                intro l
                induction l with
                | nil => intro ds e; cases e; rfl
                | cons o l ih =>
                  intro ds e
                  cases o with
                  | none => cases e
                  | some a =>
                    have e' : (optAll l).map (a :: ·) = some ds := e
                    cases z : optAll l with
                    | none => rw [z] at e'; cases e'
                    | some r => rw [z] at e'; cases e'; simp [ih r z]
              have := aux _ _ qp
              rw [List.length_map, List.length_zip] at this
              have := len_tlX form
              omega
            have ad : dAdd (.tup [.str w0]) (.tup ds) = .ok (.tup (.str w0 :: ds)) := by
              show (if [D.str w0] ≠ [] ∧ 1 + ds.length ≤ szL then R.ok (D.tup _) else .stuck) = _
              rw [if_pos ⟨by simp, le_szL (by omega)⟩]
              rfl
            simp [f_read_deed, m_read_deed, sp, i0, eb', go', gx, c1, pa, s1, ad, outF, -dIdx, -fLen, -dAdd]
        · rw [if_neg cl] at pa ⊢
          simp [f_read_deed, m_read_deed, sp, i0, eb', go', gx, c1, pa, s1, outF, -dIdx, -fLen, -dAdd]

def formsD : List (Key × D) := tb_FORMS.map fun p => (Sum.inr p.1, D.str p.2)
theorem formsD_look (w : Str) : ∀ l : List (Str × Str), valD (l.map fun p => ((Sum.inr p.1 : Key), D.str p.2)) (.inr w) = (l.lookup w).map D.str
  | [] => rfl
  | (a, b) :: l => by
    rw [List.map_cons, List.lookup_cons]
    by_cases c : w = a
    · subst c
      rw [valD_pos rfl]
      simp
    · rw [valD_neg (fun z => c (Sum.inr.inj z).symm), formsD_look w l]
      have : (w == a) = false := beq_eq_false_iff_ne.mpr c
      rw [this]
theorem formsD_at (w : Str) : valD formsD (.inr w) = (tb_FORMS.lookup w).map D.str := formsD_look w tb_FORMS
theorem zipD_swap : ∀ (ks : List Nat) (ws : List Str), zipD (ks.map fun k => D.str ⟨#[k]⟩) (ws.map D.str) = (ws.zip ks).map fun (p : Str × Nat) => D.tup [.str ⟨#[p.2]⟩, .str p.1]
  | [], ws => by cases ws <;> rfl
  | _ :: _, [] => rfl
  | k :: ks, w :: ws => by
    have := zipD_swap ks ws
    unfold zipD at *
    simp only [List.map_cons, List.zip_cons_cons] at *
    rw [this]
theorem forms_made : gDisp ["shut", "walk", "put", "take", "mirror", "lay"] (VL.gCons (gC (.str "n")) (VL.gCons (gC (.str "nii")) (VL.gCons (gC (.str "ni")) (VL.gCons (gC (.str "ni")) (VL.gCons (gC (.str "n")) (VL.gCons (gC (.str "nni")) VL.gNil)))))) = fun _ => .ok (.dct (formsD.take 6)) := rfl
theorem forms_dict (r : List Nat) (a : Option D) (t : List (Option D)) : gCall fDictP (VL.gCons (gBin dAdd (gUn dItemsK (gVar 1)) (VL.gLst (VL.gCons (VL.gTup (VL.gCons (gC (.str "late")) (VL.gCons (gC (.str "niii")) VL.gNil))) (VL.gCons (VL.gTup (VL.gCons (gC (.str "strike")) (VL.gCons (gC (.str "ni")) VL.gNil))) VL.gNil)))) VL.gNil) (a :: some (.dct (formsD.take 6)) :: t) = .ok (.dct formsD) := by
  have s2 : (2 : Nat) ≤ szL := le_szL (by decide)
  have s8 : (8 : Nat) ≤ szL := le_szL (by decide)
  have it : dItemsK (.dct (formsD.take 6)) = .ok (.lst [.tup [.str "shut", .str "n"], .tup [.str "walk", .str "nii"], .tup [.str "put", .str "ni"], .tup [.str "take", .str "ni"], .tup [.str "mirror", .str "n"], .tup [.str "lay", .str "nni"]]) := rfl
  have dp : fDictP [.lst [.tup [.str "shut", .str "n"], .tup [.str "walk", .str "nii"], .tup [.str "put", .str "ni"], .tup [.str "take", .str "ni"], .tup [.str "mirror", .str "n"], .tup [.str "lay", .str "nni"], .tup [.str "late", .str "niii"], .tup [.str "strike", .str "ni"]]] = .ok (.dct formsD) := by
    show (if ((formsD.map (·.1)).Nodup ∧ formsD.length ≤ szL) then R.ok (D.dct formsD) else .stuck) = _
    rw [if_pos ⟨by decide +kernel, s8⟩]
  generalize D.dct (formsD.take 6) = F at *
  simp [it, s2, s8, dp]
theorem number_lawX {B : Nat} (hB : B ≤ 1000000) {w : Str} (h : TxOk B w) : f_number_L [.str w] = .ok (match numV w with
    | some n => .int n
    | none => .non) := by
  have z := num_lawX w h.lay (Nat.le_trans h.len hB)
  rw [z]
  cases numV w <;> rfl
theorem reads_step {B : Nat} (hB : B ≤ 1000000) (a b c d x7 : Option D) (acc : List D) (w : Str) (k : Nat) (hk : k = 110 ∨ k = 105) (hw : TxOk B w) (ha : acc.length ≤ 1000) (hne : acc ≠ []) :
    match partV w k with
    | some p => ∃ y7, b_reads_L_1 [a, b, c, d, some (.str w), some (.tup acc), some (.str ⟨#[k]⟩), x7] = .nx [a, b, c, d, some (.str w), some (.tup (acc ++ [p])), some (.str ⟨#[k]⟩), y7]
    | none => ∃ r, b_reads_L_1 [a, b, c, d, some (.str w), some (.tup acc), some (.str ⟨#[k]⟩), x7] = .rt .non r := by
  have ki := kind_i k hk
  have nl := number_lawX hB hw
  have il := is_name_lawX w (Nat.le_trans hw.len hB)
  have s2 : (2 : Nat) ≤ szL := le_szL (by decide)
  have s1 : (1 : Nat) ≤ szL := le_szL (by decide)
  have ad : ∀ p : D, dAdd (.tup acc) (.tup [p]) = .ok (.tup (acc ++ [p])) := fun p => by
    show (if acc ≠ [] ∧ acc.length + 1 ≤ szL then R.ok (D.tup _) else .stuck) = _
    rw [if_pos ⟨hne, le_szL (by omega)⟩]
  unfold partV
  by_cases c1 : k = 110
  · rw [if_pos c1]
    rw [decide_eq_true c1] at ki
    cases qn : nameOk w with
    | true =>
      rw [qn] at il
      rw [if_pos rfl]
      have ix : dIdx (.lst [.non, .str w]) (.int 1) = .ok (.str w) := dIdx_list (i := 1) rfl
      refine ⟨some (.str w), ?_⟩
      simp [b_reads_L_1, ki, il, ix, s2, s1, ad, -dIdx, -dAdd]
    | false =>
      rw [qn] at il
      rw [if_neg Bool.false_ne_true]
      have ix : dIdx (.lst [.non, .str w]) (.int 0) = .ok .non := dIdx_list (i := 0) rfl
      refine ⟨[a, b, c, d, some (.str w), some (.tup acc), some (.str ⟨#[k]⟩), some .non], ?_⟩
      simp [b_reads_L_1, ki, il, ix, s2, s1, ad, -dIdx, -dAdd]
  · rw [if_neg c1]
    rw [decide_eq_false c1] at ki
    cases qn : numV w with
    | some n =>
      rw [qn] at nl
      refine ⟨some (.int n), ?_⟩
      simp [b_reads_L_1, ki, nl, s1, ad, -dIdx, -dAdd]
    | none =>
      rw [qn] at nl
      refine ⟨[a, b, c, d, some (.str w), some (.tup acc), some (.str ⟨#[k]⟩), some .non], ?_⟩
      simp [b_reads_L_1, ki, nl, s1, ad, -dIdx, -dAdd]
theorem reads_loop {B : Nat} (hB : B ≤ 1000000) (a b c d : Option D) : ∀ (ps : List (Str × Nat)) (acc : List D) (x4 x6 x7 : Option D), (∀ p ∈ ps, TxOk B p.1 ∧ (p.2 = 110 ∨ p.2 = 105)) → acc.length + ps.length ≤ 1000 → acc ≠ [] →
    match optAll (ps.map fun p => partV p.1 p.2) with
    | some ds => ∃ y4 y6 y7, forL (.tup [6, 4]) b_reads_L_1 (ps.map fun (p : Str × Nat) => D.tup [.str ⟨#[p.2]⟩, .str p.1]) [a, b, c, d, x4, some (.tup acc), x6, x7] = .nx [a, b, c, d, y4, some (.tup (acc ++ ds)), y6, y7]
    | none => ∃ r, forL (.tup [6, 4]) b_reads_L_1 (ps.map fun (p : Str × Nat) => D.tup [.str ⟨#[p.2]⟩, .str p.1]) [a, b, c, d, x4, some (.tup acc), x6, x7] = .rt .non r
  | [], acc, x4, x6, x7, _, _, _ => ⟨x4, x6, x7, by rw [List.append_nil]; rfl⟩
  | (w, k) :: ps, acc, x4, x6, x7, h, hl, hne => by
    have hp := h (w, k) List.mem_cons_self
    have st := reads_step hB a b c d x7 acc w k hp.2 hp.1 (by simp at hl; omega) hne
    have un : (Tg.tup [6, 4]).un (D.tup [.str ⟨#[k]⟩, .str w]) = .ok [.str ⟨#[k]⟩, .str w] := rfl
    rw [List.map_cons, List.map_cons]
    dsimp only
    cases q : partV w k with
    | none =>
      rw [q] at st
      obtain ⟨r, e⟩ := st
      refine ⟨r, ?_⟩
      show (match b_reads_L_1 [a, b, c, d, some (.str w), some (.tup acc), some (.str ⟨#[k]⟩), x7] with
        | .nx r' => forL (.tup [6, 4]) b_reads_L_1 (ps.map fun (p : Str × Nat) => D.tup [.str ⟨#[p.2]⟩, .str p.1]) r'
        | o => o) = _
      rw [e]
    | some p =>
      rw [q] at st
      obtain ⟨y7, e⟩ := st
      have ih := reads_loop hB a b c d ps (acc ++ [p]) (some (.str w)) (some (.str ⟨#[k]⟩)) y7 (fun x hx => h x (List.mem_cons_of_mem _ hx)) (by simp at hl ⊢; omega) (by simp)
      show match (optAll (ps.map fun p => partV p.1 p.2)).map (p :: ·) with
        | some ds => _
        | none => _
      have fs : forL (.tup [6, 4]) b_reads_L_1 (D.tup [.str ⟨#[k]⟩, .str w] :: ps.map fun (p : Str × Nat) => D.tup [.str ⟨#[p.2]⟩, .str p.1]) [a, b, c, d, x4, some (.tup acc), x6, x7] = forL (.tup [6, 4]) b_reads_L_1 (ps.map fun (p : Str × Nat) => D.tup [.str ⟨#[p.2]⟩, .str p.1]) [a, b, c, d, some (.str w), some (.tup (acc ++ [p])), some (.str ⟨#[k]⟩), y7] :=
        forL_step (xs := [.str ⟨#[k]⟩, .str w]) un e
      cases qo : optAll (ps.map fun p => partV p.1 p.2) with
      | none =>
        rw [qo] at ih
        obtain ⟨r, e2⟩ := ih
        exact ⟨r, fs.trans e2⟩
      | some ds =>
        rw [qo] at ih
        obtain ⟨y4, y6, y8, e2⟩ := ih
        refine ⟨y4, y6, y8, fs.trans ?_⟩
        rw [e2, List.append_assoc]
        rfl
theorem notin_non (l : List (Option Int)) (hl : l.length ≤ 1100000) : dNotIn .non (.lst (l.map fun o => match o with
    | some n => D.int n
    | none => .non)) = .ok (.bl (l.all (·.isSome))) := by
  dsimp only [dNotIn]
  have h1 : shp .non = true := rfl
  have h2 : shp (.lst (l.map fun o => match o with
      | some n => D.int n
      | none => .non)) = true := by
    refine pl_shp (n := 3) (by decide) ?_
    show ((l.map _).all (pl 2) && decide ((l.map _).length ≤ szL)) = true
    rw [List.length_map, decide_eq_true (le_szL (by omega)), Bool.and_true, List.all_map, List.all_eq_true]
    intro o _
    cases o <;> rfl
  rw [h1, h2]
  show R.ok (D.bl (!(l.map _).any fun z => dEqB z .non)) = _
  congr 2
  rw [List.any_map]
  have aux : ∀ l : List (Option Int), (!l.any ((fun z => dEqB z .non) ∘ fun o => match o with
      | some n => D.int n
      | none => .non)) = l.all (·.isSome) := by
    intro l
    induction l with
    | nil => rfl
    | cons o l ih =>
      rw [List.any_cons, List.all_cons, Bool.not_or, ih]
      cases o <;> rfl
  exact aux l
theorem optAll_nums : ∀ (ws : List Str), optAll (ws.map fun w => (numV w).map D.int) = if (ws.map numV).all (·.isSome) = true then some (ws.map fun w => match numV w with
    | some n => D.int n
    | none => .non) else none
  | [] => rfl
  | w :: ws => by
    have ih := optAll_nums ws
    rw [List.map_cons, List.map_cons, List.all_cons]
    cases q : numV w with
    | none => rfl
    | some n =>
      show (optAll (ws.map fun w => (numV w).map D.int)).map (D.int n :: ·) = _
      rw [ih]
      simp only [Option.isSome_some, Bool.true_and, List.map_cons, q]
      split <;> rfl
theorem reads_lawX {B : Nat} (hB : B ≤ 1000000) (t : Str) (h : TxOk B t) : f_reads_L [.str t] = .ok (match wordsV (Txt.split t " ") with
    | some d => d
    | none => .non) := by
  have sp := split_dX h hB
  obtain ⟨hw, hl, hne⟩ := split_words h
  generalize Txt.split t " " = ws at *
  show outF (m_reads_L [some (.str t), none, none, none, none, none, none, none]) = _
  unfold m_reads_L
  rw [forms_made]
  have st1 : mSet 1 (fun _ => R.ok (D.dct (formsD.take 6))) [some (.str t), none, none, none, none, none, none, none] = .nx [some (.str t), some (.dct (formsD.take 6)), none, none, none, none, none, none] := rfl
  have st2 : ∀ g : Sl → R D, g [some (.str t), some (.dct (formsD.take 6)), none, none, none, none, none, none] = .ok (.dct formsD) → mSet 1 g [some (.str t), some (.dct (formsD.take 6)), none, none, none, none, none, none] = .nx [some (.str t), some (.dct formsD), none, none, none, none, none, none] := fun g e => by
    unfold mSet
    rw [e]
    rfl
  rw [seq_nx st1, seq_nx (st2 _ (forms_dict [] (some (.str t)) [none, none, none, none, none, none]))]
  have fa := formsD_at
  generalize formsD = FD at fa ⊢
  cases ws with
  | nil => exact absurd rfl hne
  | cons w0 rest =>
    have t0 := hw w0 List.mem_cons_self
    have i0 : dIdx (.lst ((w0 :: rest).map D.str)) (.int 0) = .ok (.str w0) := dIdx_list (i := 0) rfl
    have eb := eq_str w0 "build" t0.lay
    have fl : fLen [.lst ((w0 :: rest).map D.str)] = .ok (.int ((rest.length + 1 : Nat) : Int)) := by simp [fLen]
    rw [seq_nx (r' := [some (.str t), some (.dct FD), some (.lst ((w0 :: rest).map D.str)), none, none, none, none, none]) (by
      generalize (w0 :: rest).map D.str = W at *
      simp [sp])]
    by_cases c0 : w0 = "build" ∧ rest ≠ []
    · obtain ⟨c0, cr⟩ := c0
      subst c0
      have eb' : dEq (.str "build") (.str "build") = .ok (.bl true) := eb.trans (by simp)
      cases rest with
      | nil => exact absurd rfl cr
      | cons w1 ns =>
        have t1 := hw w1 (by simp)
        have i1 : dIdx (.lst ((("build" : Str) :: w1 :: ns).map D.str)) (.int 1) = .ok (.str w1) := dIdx_list (i := 1) rfl
        have gl : (1 : Int) < (((w1 :: ns).length + 1 : Nat) : Int) := by simp only [List.length_cons]; omega
        have nm := is_name_lawX w1 (Nat.le_trans t1.len hB)
        have cp : gComp (gIter (gSl (gVar 2) (gPart (gC (.int 2))) gNoPart)) (.one 4) [4] gYes (gCall f_number_L (VL.gCons (gVar 4) VL.gNil)) [some (.str t), some (.dct FD), some (.lst ((("build" : Str) :: w1 :: ns).map D.str)), none, none, none, none, none] = .ok (.lst (ns.map fun w => match numV w with
            | some n => D.int n
            | none => .non)) := by
          refine gComp_map (l := ns) (F := D.str) ?_ fun w hw2 => ?_
          · have c2 : cutL ((("build" : Str) :: w1 :: ns).map D.str) (some 2) none = ns.map D.str := by
              rw [show cutL ((("build" : Str) :: w1 :: ns).map D.str) (some 2) none = _ from cutL_fromG (k := 2) rfl]
              rfl
            generalize (("build" : Str) :: w1 :: ns).map D.str = W at *
            simp [c2]
          · have z := number_lawX hB (hw w (by simp [hw2]))
            simp [gTurn, z]
        have ni := notin_non (ns.map numV) (by simp only [List.length_map]; simp only [List.length_cons] at hl; omega)
        rw [List.map_map] at ni
        have ni' : dNotIn .non (.lst (ns.map fun w => match numV w with
            | some n => D.int n
            | none => .non)) = .ok (.bl ((ns.map numV).all (·.isSome))) := ni
        have s3 : (3 : Nat) ≤ szL := le_szL (by decide)
        have on := optAll_nums ns
        have wv : wordsV (("build" : Str) :: w1 :: ns) = if nameOk w1 = true then (optAll (ns.map fun w => (numV w).map D.int)).map fun ds => D.tup [.str "build", .str w1, .tup ds] else none := by
          show wordV "build" (w1 :: ns) = _
          unfold wordV
          rw [if_pos (And.intro rfl (by simp))]
          rfl
        rw [wv, on]
        generalize (("build" : Str) :: w1 :: ns).map D.str = W at *
        generalize (((w1 :: ns).length + 1 : Nat) : Int) = LL at *
        generalize (ns.map numV).all (·.isSome) = AA at *
        generalize (ns.map fun w => match numV w with
            | some n => D.int n
            | none => .non) = NL at *
        cases cn : nameOk w1 with
        | true =>
          rw [cn] at nm
          cases AA with
          | true => simp [i0, i1, eb', fl, gl, nm, cp, ni', s3, outF, -dIdx, -fLen]
          | false => simp [i0, i1, eb', fl, gl, nm, cp, ni', s3, outF, -dIdx, -fLen]
        | false =>
          rw [cn] at nm
          simp [i0, i1, eb', fl, gl, nm, cp, ni', s3, outF, -dIdx, -fLen]
    · have wv : wordsV (w0 :: rest) = formV w0 rest := by
        show wordV w0 rest = _
        unfold wordV
        rw [if_neg c0]
      rw [wv]
      have tb : gAnd (gTest (gBin dEq (gBin dIdx (gVar 2) (gC (.int 0))) (gC (.str "build")))) (gTest (gBin dGt (gCall fLen (VL.gCons (gVar 2) VL.gNil)) (gC (.int 1)))) [some (.str t), some (.dct FD), some (.lst ((w0 :: rest).map D.str)), none, none, none, none, none] = .ok false := by
        by_cases cb : w0 = "build"
        · have cr : rest = [] := Classical.byContradiction fun z => c0 ⟨cb, z⟩
          subst cr
          subst cb
          have eb' : dEq (.str "build") (.str "build") = .ok (.bl true) := eb.trans (by simp)
          have fl' : fLen [.lst [D.str "build"]] = .ok (.int 1) := fl
          have i0' : dIdx (.lst [D.str "build"]) (.int 0) = .ok (.str "build") := i0
          simp [i0', eb', fl', -dIdx, -fLen]
        · have eb' : dEq (.str w0) (.str "build") = .ok (.bl false) := eb.trans (by rw [beq_eq_false_iff_ne.mpr cb])
          generalize (w0 :: rest).map D.str = W at *
          simp [i0, eb', -dIdx]
      have st3 : ∀ m1 m2 : Sl → O, mIf (gAnd (gTest (gBin dEq (gBin dIdx (gVar 2) (gC (.int 0))) (gC (.str "build")))) (gTest (gBin dGt (gCall fLen (VL.gCons (gVar 2) VL.gNil)) (gC (.int 1))))) m1 m2 [some (.str t), some (.dct FD), some (.lst ((w0 :: rest).map D.str)), none, none, none, none, none] = m2 [some (.str t), some (.dct FD), some (.lst ((w0 :: rest).map D.str)), none, none, none, none, none] := fun m1 m2 => by
        unfold mIf
        rw [tb]
        rfl
      have st3n : ∀ m1 : Sl → O, mIf (gAnd (gTest (gBin dEq (gBin dIdx (gVar 2) (gC (.int 0))) (gC (.str "build")))) (gTest (gBin dGt (gCall fLen (VL.gCons (gVar 2) VL.gNil)) (gC (.int 1))))) m1 mNil [some (.str t), some (.dct FD), some (.lst ((w0 :: rest).map D.str)), none, none, none, none, none] = .nx [some (.str t), some (.dct FD), some (.lst ((w0 :: rest).map D.str)), none, none, none, none, none] := fun m1 => st3 m1 mNil
      rw [seq_nx (st3n _)]
      have fa0 := fa w0
      unfold formV
      cases q : tb_FORMS.lookup w0 with
      | none =>
        rw [q] at fa0
        have fa1 : valD FD (.inr w0) = none := fa0
        generalize (w0 :: rest).map D.str = W at *
        simp [i0, VL.keyOf, fa1, outF, -dIdx, -fLen]
      | some form =>
        rw [q] at fa0
        have fa1 : valD FD (.inr w0) = some (.str form) := fa0
        obtain ⟨f1, f2, f3⟩ := forms_ok q
        have hz : form.length ≤ szL := le_szL (by omega)
        have hz' : form.cps.size ≤ szL := hz
        have fl2 : fLen [.str form] = .ok (.int (form.length : Nat)) := by
          show (if _ then R.ok (D.int _) else .stuck) = _
          rw [if_pos hz]
        have s1 : (1 : Nat) ≤ szL := le_szL (by decide)
        by_cases cl : rest.length = form.length
        · have ne : dNe (.int ((rest.length + 1 : Nat) : Int)) (.int ((form.length : Int) + 1)) = .ok (.bl false) := by rw [cl]; simp
          rw [seq_nx (r' := [some (.str t), some (.dct FD), some (.lst ((w0 :: rest).map D.str)), none, none, none, none, none]) (by
            generalize (w0 :: rest).map D.str = W at *
            generalize ((rest.length + 1 : Nat) : Int) = LL at *
            generalize ((form.length : Nat) : Int) = FL at *
            simp [i0, VL.keyOf, fa1, fl, fl2, ne, -dIdx, -fLen, -dNe_int])]
          rw [seq_nx (r' := [some (.str t), some (.dct FD), some (.lst ((w0 :: rest).map D.str)), none, none, some (.tup [.str w0]), none, none]) (by
            generalize (w0 :: rest).map D.str = W at *
            simp [i0, s1, -dIdx])]
          have lp := reads_loop hB (some (.str t)) (some (.dct FD)) (some (.lst ((w0 :: rest).map D.str))) none (rest.zip form.cps.toList) [.str w0] none none none (fun p hp => ⟨hw p.1 (List.mem_cons_of_mem _ (List.of_mem_zip hp).1), f1 p.2 (List.of_mem_zip hp).2⟩) (by
            rw [List.length_zip]
            have := len_tlX form
            simp only [List.length_cons, List.length_nil]
            omega) (by simp)
          have gz : gZipS (gBin dDix (gVar 1) (gBin dIdx (gVar 2) (gC (.int 0)))) (gSl (gVar 2) (gPart (gC (.int 1))) gNoPart) [some (.str t), some (.dct FD), some (.lst ((w0 :: rest).map D.str)), none, none, some (.tup [.str w0]), none, none] = .ok ((rest.zip form.cps.toList).map fun (p : Str × Nat) => D.tup [.str ⟨#[p.2]⟩, .str p.1]) := by
            have c1 : cutL ((w0 :: rest).map D.str) (some 1) none = rest.map D.str := by
              rw [show cutL ((w0 :: rest).map D.str) (some 1) none = _ from cutL_fromG (k := 1) rfl]
              rfl
            have it : itemsD (.str form) = some (form.cps.toList.map fun k => D.str ⟨#[k]⟩) := by
              unfold itemsD
              dsimp only
              rw [if_pos hz']
            have zs := zipD_swap form.cps.toList rest
            have dz : dZipS (.str form) (.lst (rest.map D.str)) = .ok ((rest.zip form.cps.toList).map fun (p : Str × Nat) => D.tup [.str ⟨#[p.2]⟩, .str p.1]) := by
              show (match itemsD (.str form), itemsD (.lst (rest.map D.str)) with
                | some ds, some es => R.ok (zipD ds es)
                | _, _ => .stuck) = _
              rw [it]
              exact congrArg R.ok zs
            generalize (w0 :: rest).map D.str = W at *
            generalize rest.map D.str = RM at *
            unfold gZipS
            simp [i0, VL.keyOf, fa1, c1, dz, -dIdx]
          unfold partsV
          dsimp only
          rw [if_pos cl]
          cases qo : optAll ((rest.zip form.cps.toList).map fun p => partV p.1 p.2) with
          | none =>
            rw [qo] at lp
            obtain ⟨r, e⟩ := lp
            have : mFor (gZipS (gBin dDix (gVar 1) (gBin dIdx (gVar 2) (gC (.int 0)))) (gSl (gVar 2) (gPart (gC (.int 1))) gNoPart)) (.tup [6, 4]) b_reads_L_1 [some (.str t), some (.dct FD), some (.lst ((w0 :: rest).map D.str)), none, none, some (.tup [.str w0]), none, none] = .rt .non r := by
              unfold mFor
              rw [gz]
              exact e
            unfold mSeq
            rw [this]
            rfl
          | some ds =>
            rw [qo] at lp
            obtain ⟨y4, y6, y7, e⟩ := lp
            have : mFor (gZipS (gBin dDix (gVar 1) (gBin dIdx (gVar 2) (gC (.int 0)))) (gSl (gVar 2) (gPart (gC (.int 1))) gNoPart)) (.tup [6, 4]) b_reads_L_1 [some (.str t), some (.dct FD), some (.lst ((w0 :: rest).map D.str)), none, none, some (.tup [.str w0]), none, none] = .nx [some (.str t), some (.dct FD), some (.lst ((w0 :: rest).map D.str)), none, y4, some (.tup ([.str w0] ++ ds)), y6, y7] := by
              unfold mFor
              rw [gz]
              exact e
            rw [seq_nx this]
            rfl
        · have ne : dNe (.int ((rest.length + 1 : Nat) : Int)) (.int ((form.length : Int) + 1)) = .ok (.bl true) := by
            rw [dNe_int]
            congr 2
            simp
            omega
          dsimp only
          rw [if_neg cl]
          generalize (w0 :: rest).map D.str = W at *
          generalize ((rest.length + 1 : Nat) : Int) = LL at *
          generalize ((form.length : Nat) : Int) = FL at *
          simp [i0, VL.keyOf, fa1, fl, fl2, ne, outF, -dIdx, -fLen, -dNe_int]

theorem all_true : ∀ (l : List Nat), blsOf (l.map fun _ => D.bl true) = some (l.map fun _ => true)
  | [] => rfl
  | _ :: l => by
    show (blsOf (l.map fun _ => D.bl true)).map _ = _
    rw [all_true l]
    rfl
theorem fAll_true (l : List Nat) : fAll [.lst (l.map fun _ => D.bl true)] = .ok (.bl true) := by
  dsimp only [fAll]
  rw [all_true]
  simp
theorem same_refl : ∀ (n : Nat) (d : D), n ≤ 64 → pl n d = true → f_same_L n [d, d] = .ok (.bl true)
  | 0, _, _, h => by cases h
  | n + 1, .non, _, _ => by simp [f_same_L, m_same_L]
  | n + 1, .bl b, hn, h => by simp [f_same_L, m_same_L]
  | n + 1, .int i, hn, h => by simp [f_same_L, m_same_L]
  | n + 1, .str x, hn, h => by simp [f_same_L, m_same_L, dEq_self hn h]
  | _ + 1, .dct _, _, h => by cases h
  | _ + 1, .obj _ _, _, h => by cases h
  | _ + 1, .scr _, _, h => by cases h
  | n + 1, .lst xs, hn, h => by
    have q : (xs.all (pl n) && decide (xs.length ≤ szL)) = true := h
    obtain ⟨q1, q2⟩ := Bool.and_eq_true_iff.mp q
    have hl : xs.length ≤ szL := of_decide_eq_true q2
    have c : gComp (gRange1 (gCall fLen (VL.gCons (gVar 1) VL.gNil))) (.one 2) [2] gYes (gCall (f_same_L n) (VL.gCons (gBin dIdx (gVar 0) (gVar 2)) (VL.gCons (gBin dIdx (gVar 1) (gVar 2)) VL.gNil))) [some (.lst xs), some (.lst xs), none] = .ok (.lst ((List.range xs.length).map fun _ => D.bl true)) := by
      refine gComp_map (F := fun (i : Nat) => D.int i) ?_ fun i hi => ?_
      · show dRange1 (.int (xs.length : Int)) = _
        exact dRange1_nat (by rw [szL_val] at hl; exact hl)
      · have hi' : i < xs.length := List.mem_range.mp hi
        have e : xs[i]? = some xs[i] := by simp [hi']
        have s := same_refl n xs[i] (by omega) (List.all_eq_true.mp q1 _ (List.getElem_mem hi'))
        simp [gTurn, dIdx_list e, s, -dIdx]
    simp [f_same_L, m_same_L, c, fAll_true]
  | n + 1, .tup xs, hn, h => by
    have q : (xs.all (pl n) && decide (xs.length ≤ szL)) = true := h
    obtain ⟨q1, q2⟩ := Bool.and_eq_true_iff.mp q
    have hl : xs.length ≤ szL := of_decide_eq_true q2
    have c : gComp (gRange1 (gCall fLen (VL.gCons (gVar 1) VL.gNil))) (.one 2) [2] gYes (gCall (f_same_L n) (VL.gCons (gBin dIdx (gVar 0) (gVar 2)) (VL.gCons (gBin dIdx (gVar 1) (gVar 2)) VL.gNil))) [some (.tup xs), some (.tup xs), none] = .ok (.lst ((List.range xs.length).map fun _ => D.bl true)) := by
      refine gComp_map (F := fun (i : Nat) => D.int i) ?_ fun i hi => ?_
      · show dRange1 (.int (xs.length : Int)) = _
        exact dRange1_nat (by rw [szL_val] at hl; exact hl)
      · have hi' : i < xs.length := List.mem_range.mp hi
        have e : xs[i]? = some xs[i] := by simp [hi']
        have s := same_refl n xs[i] (by omega) (List.all_eq_true.mp q1 _ (List.getElem_mem hi'))
        simp [gTurn, dIdx_tup e, s, -dIdx]
    simp [f_same_L, m_same_L, c, fAll_true]

theorem itx_free (s : Nat) (hs : s ≠ 45 ∧ (s < 48 ∨ 57 < s)) (a : Int) : s ∉ TL.tl (Str.ofString (toString a)) := by
  by_cases ha : a < 0
  · rw [itx_neg ha]
    obtain ⟨n, hn⟩ : ∃ n : Nat, 0 - a = (n : Int) := ⟨(0 - a).toNat, by omega⟩
    rw [hn, itx_nat]
    intro h
    rcases List.mem_cons.mp h with z | z
    · exact hs.1 z
    · exact TL.numL_free hs.2 z
  · obtain ⟨n, rfl⟩ : ∃ n : Nat, a = (n : Int) := ⟨a.toNat, by omega⟩
    rw [itx_nat]
    exact TL.numL_free hs.2
/-! ### law k49 -/
theorem asc_itx (i : Int) : ∀ c ∈ (itx i).cps.toList, c < 128 := fun c hc => by
  have free : ∀ s, s ≠ 45 ∧ (s < 48 ∨ 57 < s) → s ∉ TL.tl (Str.ofString (toString i)) := fun s hs => itx_free s hs i
  have hc' : c ∈ TL.tl (Str.ofString (toString i)) := hc
  refine Classical.byContradiction fun z => free c ⟨by omega, by omega⟩ hc'
theorem asc_name {x : Str} (h : nameOk x = true) : ∀ c ∈ x.cps.toList, c < 128 := fun c hc => by
  unfold nameOk at h
  rw [Bool.and_eq_true] at h
  have y := of_decide_eq_true (List.all_eq_true.mp h.2 c hc)
  exact (by decide +kernel : ∀ c ∈ letters.cps.toList, c < 128) c y
theorem asc_word (d : Deed) : ∀ c ∈ (wordOf d).cps.toList, c < 128 := (by decide +kernel : ∀ w ∈ (["build", "shut", "walk", "put", "take", "mirror", "lay", "late", "strike"] : List Str), ∀ c ∈ w.cps.toList, c < 128) _ (by cases d <;> simp [wordOf])
theorem txt_tx {d : Deed} (h : ReadOk d) : TxOk 50000 (txtOf d) := ⟨fun c hc => by
  have hc' : c ∈ TL.tl (Txt.join " " (wordsOf d)) := hc
  rw [TL.join_eq, TL.tl_join] at hc'
  rcases joinL_mem hc' with z | ⟨x, hx, z⟩
  · rw [show TL.tl (" " : Str) = [32] from by decide +kernel] at z
    have : c = 32 := by simpa using z
    omega
  · obtain ⟨w, hw, rfl⟩ := List.mem_map.mp hx
    unfold wordsOf at hw
    rcases List.mem_cons.mp hw with e | hw
    · rw [e] at z; exact asc_word d c z
    · rcases List.mem_cons.mp hw with e | hw
      · rw [e] at z; exact asc_name h.road c z
      · obtain ⟨p, hp, rfl⟩ := List.mem_map.mp hw
        have pr := h.all p hp
        cases p with
        | n i => exact asc_itx i c z
        | x s => exact asc_name pr c z, txt_lenR h⟩
theorem optAll_mem {α : Type} : ∀ {l : List (Option α)} {ds : List α}, optAll l = some ds → ds.length = l.length ∧ ∀ d ∈ ds, some d ∈ l
  | [], _, e => by cases e; exact ⟨rfl, fun d h => nomatch h⟩
  | none :: _, _, e => by cases e
  | some a :: l, ds, e => by
    have e' : (optAll l).map (a :: ·) = some ds := e
    cases z : optAll l with
    | none => rw [z] at e'; cases e'
    | some r =>
      rw [z] at e'
      cases e'
      obtain ⟨h1, h2⟩ := optAll_mem z
      refine ⟨by simp [h1], fun d hd => ?_⟩
      rcases List.mem_cons.mp hd with x | hd
      · rw [x]; exact List.mem_cons_self
      · exact List.mem_cons_of_mem _ (h2 d hd)
theorem pl_tx {B : Nat} (hB : B ≤ 1000000) {w : Str} (h : TxOk B w) (n : Nat) : pl (n + 1) (.str w) = true := by
  show ((PyData.str w).canLay0 && decide (w.length ≤ szL)) = true
  rw [h.lay, decide_eq_true (le_szL (by have := h.len; omega))]
  rfl
theorem wordsV_pl {B : Nat} (hB : B ≤ 1000000) {ws : List Str} (h : ∀ w ∈ ws, TxOk B w) (hl : ws.length ≤ 1000001) {d : D} (e : wordsV ws = some d) : pl 4 d = true ∧ ∃ ds, d = .tup ds := by
  have tupl : ∀ (n : Nat) (ds : List D), ds.length ≤ 1000002 → (∀ d ∈ ds, pl n d = true) → pl (n + 1) (.tup ds) = true := fun n ds z a => by
    show (ds.all (pl n) && decide (ds.length ≤ szL)) = true
    rw [decide_eq_true (le_szL (by omega)), Bool.and_true, List.all_eq_true]
    exact a
  cases ws with
  | nil => cases e
  | cons w0 rest =>
    have e : wordV w0 rest = some d := e
    unfold wordV at e
    split at e
    · cases rest with
      | nil => cases e
      | cons w1 ns =>
        have e : (if nameOk w1 = true then (optAll (ns.map fun w => (numV w).map D.int)).map fun ds => D.tup [.str "build", .str w1, .tup ds] else none) = some d := e
        split at e
        · cases q : optAll (ns.map fun w => (numV w).map D.int) with
          | none => rw [q] at e; cases e
          | some ds =>
            rw [q] at e
            cases e
            obtain ⟨h1, h2⟩ := optAll_mem q
            rw [List.length_map] at h1
            simp only [List.length_cons] at hl
            refine ⟨tupl 3 _ (by simp) fun x hx => ?_, _, rfl⟩
            simp only [List.mem_cons, List.not_mem_nil, or_false] at hx
            rcases hx with z | z | z <;> subst z
            · exact pl_tx (B := 10) (by decide) (tx_of 10 (by decide +kernel) (by decide +kernel)) 2
            · exact pl_tx hB (h w1 (by simp)) 2
            · refine tupl 2 ds (by omega) fun x hx => ?_
              obtain ⟨w, _, q2⟩ := List.mem_map.mp (h2 x hx)
              cases q3 : numV w with
              | none => rw [q3] at q2; cases q2
              | some n => rw [q3] at q2; cases q2; rfl
        · cases e
    · unfold formV at e
      cases ql : tb_FORMS.lookup w0 with
      | none => rw [ql] at e; cases e
      | some form =>
        rw [ql] at e
        dsimp only at e
        split at e
        · unfold partsV at e
          cases q : optAll ((rest.zip form.cps.toList).map fun p => partV p.1 p.2) with
          | none => rw [q] at e; cases e
          | some ds =>
            rw [q] at e
            cases e
            obtain ⟨h1, h2⟩ := optAll_mem q
            rw [List.length_map, List.length_zip] at h1
            simp only [List.length_cons] at hl
            refine ⟨tupl 3 _ (by simp only [List.length_cons]; omega) fun x hx => ?_, _, rfl⟩
            rcases List.mem_cons.mp hx with z | hx
            · subst z
              exact pl_tx hB (h w0 (by simp)) 2
            · obtain ⟨p, hp, q2⟩ := List.mem_map.mp (h2 x hx)
              unfold partV at q2
              split at q2
              · split at q2
                · cases q2
                  exact pl_tx hB (h p.1 (List.mem_cons_of_mem _ (List.of_mem_zip hp).1)) 2
                · cases q2
              · cases q3 : numV p.1 with
                | none => rw [q3] at q2; cases q2
                | some n => rw [q3] at q2; cases q2; rfl
        · cases e
theorem why_text_ok {B : Nat} (hB : B ≤ 1000000) (t : Str) (h : TxOk B t) : f_why_text_L [.str t] = .ok (match wordsV (Txt.split t " ") with
    | some d => .tup [.str "told", d]
    | none => .tup [.str "BadText", .int 0]) := by
  have r := read_any hB t h
  have s2 : (2 : Nat) ≤ szL := le_szL (by decide)
  show outF (m_why_text_L [some (.str t), none, none]) = _
  cases q : wordsV (Txt.split t " ") with
  | some d =>
    rw [q] at r
    simp [m_why_text_L, r, s2, outF]
  | none =>
    rw [q] at r
    have hd : ∀ (a : D) (h1 h2 : Exc → Sl → O), handle [⟨"BadText", some 2, h1⟩, ⟨"CreelError", none, h2⟩] txtBad [some (.str t), some a, none] = unsetO 2 (h1 txtBad [some (.str t), some a, some .non]) := fun a h1 h2 => by
      show (if subX "BadText" "BadText" = true then unsetO 2 (h1 txtBad [some (.str t), some a, some .non]) else _) = _
      rw [if_pos (by decide +kernel)]
    have ga : gAt 2 txtBad [some (.str t), some (.tup [.str "told", .non]), some .non] = .ok (.int 0) := rfl
    simp [m_why_text_L, r, s2, outF, hd, ga, unsetO]
theorem turn49 (l : List Int) (l1 : l.length = 700) (d1 : Drawn l) (a x3 x4 x5 x6 : Option D) (k : Nat) (hk : k < 20) :
    ∃ y3 y4 y5 y6, b_law_1 [a, some (.lst (l.map D.int)), some (.int (k : Nat)), x3, x4, x5, x6] = .nx [a, some (.lst (l.map D.int)), some (.int (k : Nat)), y3, y4, y5, y6] := by
  have dr : ∀ n, Drawn (l.drop n) := fun n d hd => d1 d (List.mem_of_mem_drop hd)
  have cc : cutL (l.map D.int) (some (34 * (k : Int))) none = (l.drop (34 * k)).map D.int := by
    rw [show (34 : Int) * (k : Int) = ((34 * k : Nat) : Int) by omega, cutL_fromG (k := 34 * k) rfl, List.map_drop]
  have ms : mulOk 34 (k : Int) = true := mulOk_left (by decide) (by decide)
  have ln : 54 ≤ (l.drop (34 * k)).length := by rw [List.length_drop]; omega
  have dl := dr (34 * k)
  generalize l.drop (34 * k) = L at *
  obtain ⟨d, e1, ro, _⟩ := any_deed L dl (by omega)
  have e2 := law_text_ok d (read_write ro)
  have tx := txt_tx ro
  have c28 : cutL (L.map D.int) (some 28) none = (L.drop 28).map D.int := by
    rw [show (28 : Int) = ((28 : Nat) : Int) from rfl, cutL_fromG (k := 28) rfl, List.map_drop]
  have c30 : cutL (L.map D.int) (some 30) none = (L.drop 30).map D.int := by
    rw [show (30 : Int) = ((30 : Nat) : Int) from rfl, cutL_fromG (k := 30) rfl, List.map_drop]
  obtain ⟨t1, e3, tx1⟩ := bent_ok (by decide) (txtOf d) tx (L.drop 28) (by rw [List.length_drop]; omega) (fun d hd => dl d (List.mem_of_mem_drop hd))
  obtain ⟨v, p, q, g⟩ := drawn_get dl (i := 31) (by omega) (j := 31) rfl
  obtain ⟨t2, e4, tx2⟩ := bent_ok (by decide) t1 tx1 (L.drop 30) (by rw [List.length_drop]; omega) (fun d hd => dl d (List.mem_of_mem_drop hd))
  have s3 : mSet 3 (gSl (gVar 1) (gPart (gBin dMul (gC (.int 34)) (gVar 2))) gNoPart) [a, some (.lst (l.map D.int)), some (.int (k : Nat)), x3, x4, x5, x6] = .nx [a, some (.lst (l.map D.int)), some (.int (k : Nat)), some (.lst (L.map D.int)), x4, x5, x6] := by
    generalize L.map D.int = LM at *
    generalize l.map D.int = lm at *
    simp [ms, cc]
  unfold b_law_1
  rw [seq_nx s3]
  generalize l.map D.int = lm at *
  rw [seq_nx (r' := [a, some (.lst lm), some (.int (k : Nat)), some (.lst (L.map D.int)), some (.str (txtOf d)), x5, x6]) (by
    generalize L.map D.int = LM at *
    simp [e1, e2])]
  rw [seq_nx (r' := [a, some (.lst lm), some (.int (k : Nat)), some (.lst (L.map D.int)), some (.str t1), x5, x6]) (by
    generalize (L.drop 28).map D.int = L28 at *
    generalize L.map D.int = LM at *
    simp [c28, e3])]
  obtain ⟨t3, st3, tx3⟩ : ∃ t3, mIf (gTest (gBin dEq (gBin dMod (gBin dIdx (gVar 3) (gC (.int 31))) (gC (.int 3))) (gC (.int 0)))) (mSeq (mSet 4 (gCall f_bent_text_L (VL.gCons (gVar 4) (VL.gCons (gSl (gVar 3) (gPart (gC (.int 30))) gNoPart) VL.gNil)))) mNil) mNil [a, some (.lst lm), some (.int (k : Nat)), some (.lst (L.map D.int)), some (.str t1), x5, x6] = .nx [a, some (.lst lm), some (.int (k : Nat)), some (.lst (L.map D.int)), some (.str t3), x5, x6] ∧ TxOk 1000000 t3 := by
    by_cases c : v.fmod 3 = 0
    · refine ⟨t2, ?_, tx2.upto (by decide)⟩
      generalize (L.drop 30).map D.int = L30 at *
      generalize L.map D.int = LM at *
      simp [g, c, c30, e4, -dIdx]
    · refine ⟨t1, ?_, tx1.upto (by decide)⟩
      generalize L.map D.int = LM at *
      simp [g, c, -dIdx]
  rw [seq_nx st3]
  have hB : 1000000 ≤ 1000000 := Nat.le_refl _
  have rl := reads_lawX hB t3 tx3
  have wt := why_text_ok hB t3 tx3
  obtain ⟨hw, hwl, _⟩ := split_words tx3
  have s2 : (2 : Nat) ≤ szL := le_szL (by decide)
  generalize L.map D.int = LM at *
  cases qv : wordsV (Txt.split t3 " ") with
  | none =>
    rw [qv] at rl wt
    have pb : pl 7 (.str "BadText") = true := pl_tx (B := 10) (by decide) (tx_of 10 (by decide +kernel) (by decide +kernel)) 6
    have sm := same_refl 8 (.tup [.str "BadText", .int 0]) (by decide) (by
      show ((List.all [D.str "BadText", .int 0] (pl 7)) && decide ([D.str "BadText", D.int 0].length ≤ szL)) = true
      have pi : pl 7 (.int 0) = true := rfl
      simp [pb, pi])
    refine ⟨some (.lst LM), some (.str t3), some .non, some (.tup [.str "BadText", .int 0]), ?_⟩
    simp [rl, wt, s2, sm]
  | some dd =>
    rw [qv] at rl wt
    obtain ⟨pd, ds, ed⟩ := wordsV_pl hB hw (by omega) qv
    subst ed
    have sm := same_refl 8 (.tup [.str "told", .tup ds]) (by decide) (by
      show ((List.all [D.str "told", .tup ds] (pl 7)) && decide ([D.str "told", .tup ds].length ≤ szL)) = true
      have p7 : pl 7 (.tup ds) = true := pl_up 6 _ (pl_up 5 _ (pl_up 4 _ pd))
      have ps : pl 7 (.str "told") = true := pl_tx (B := 10) (by decide) (tx_of 10 (by decide +kernel) (by decide +kernel)) 6
      simp [p7, ps])
    refine ⟨some (.lst LM), some (.str t3), some (.tup ds), some (.tup [.str "told", .tup ds]), ?_⟩
    simp [rl, wt, s2, sm]
theorem loop49 (l : List Int) (l1 : l.length = 700) (d1 : Drawn l) (a : Option D) : ∀ (j k : Nat) (x2 x3 x4 x5 x6 : Option D), k + j = 20 →
    ∃ y2 y3 y4 y5 y6, forL (.one 2) b_law_1 ((List.range' k j).map fun (i : Nat) => D.int i) [a, some (.lst (l.map D.int)), x2, x3, x4, x5, x6] = .nx [a, some (.lst (l.map D.int)), y2, y3, y4, y5, y6]
  | 0, k, x2, x3, x4, x5, x6, _ => ⟨x2, x3, x4, x5, x6, rfl⟩
  | j + 1, k, x2, x3, x4, x5, x6, h => by
    obtain ⟨y3, y4, y5, y6, e⟩ := turn49 l l1 d1 a x3 x4 x5 x6 k (by omega)
    obtain ⟨z2, z3, z4, z5, z6, e2⟩ := loop49 l l1 d1 a j (k + 1) (some (.int (k : Nat))) y3 y4 y5 y6 (by omega)
    refine ⟨z2, z3, z4, z5, z6, ?_⟩
    rw [List.range'_succ, List.map_cons, ← e2]
    exact forL_step (xs := [.int (k : Nat)]) rfl e
theorem law_ok (ns : List Int) (hn : ns.length ≤ 63) : f_law [.scr ns] = .ok (.bl true) := by
  obtain ⟨l, e1, l1, d1⟩ := numbers_ok ns hn 700 (by decide)
  have e1' : f_numbers_L [.scr ns, .int 700] = .ok (.lst (l.map D.int)) := e1
  obtain ⟨y2, y3, y4, y5, y6, e⟩ := loop49 l l1 d1 (some (.scr ns)) 20 0 none none none none none rfl
  have r20 : dRange1 (.int 20) = .ok ((List.range' 0 20).map fun (i : Nat) => D.int i) := by
    rw [← range_split]
    exact dRange1_nat (n := 20) (by decide)
  generalize (List.range' 0 20).map (fun (i : Nat) => D.int i) = r20l at *
  generalize l.map D.int = ll at *
  simp [f_law, m_law, e1', r20, e, -dRange1]


def methS (i j : Nat) : Stmt := match PySem.Challenge.pw_creelway_k49_texts_of_no_deed.main.body.getD i (.Pass ⟨0, 0, 0, 0⟩) with
  | .ClassDef _ _ _ b _ _ _ _ _ _ _ => b.getD j (.Pass ⟨0, 0, 0, 0⟩)
  | s => s
def initS (i : Nat) : Stmt := match PySem.Challenge.pw_creelway_k49_texts_of_no_deed.main.body.getD i (.Pass ⟨0, 0, 0, 0⟩) with
  | .ClassDef _ _ _ b _ _ _ _ _ _ _ => b.getD 0 (.Pass ⟨0, 0, 0, 0⟩)
  | s => s
def topS (i : Nat) : Stmt := PySem.Challenge.pw_creelway_k49_texts_of_no_deed.main.body.getD i (.Pass ⟨0, 0, 0, 0⟩)
theorem nq_BadText : NmOk "BadText" := by constructor <;> decide
theorem nq_CreelError : NmOk "CreelError" := by constructor <;> decide
theorem nq_FIGURES : NmOk "FIGURES" := by constructor <;> decide
theorem nq_FORMS : NmOk "FORMS" := by constructor <;> decide
theorem nq_LETTERS : NmOk "LETTERS" := by constructor <;> decide
theorem nq_MOST_FIGURES : NmOk "MOST_FIGURES" := by constructor <;> decide
theorem nq_MOST_SIGNS : NmOk "MOST_SIGNS" := by constructor <;> decide
theorem nq__law_any_deed : NmOk "_law_any_deed" := by constructor <;> decide
theorem nq__law_any_number : NmOk "_law_any_number" := by constructor <;> decide
theorem nq__law_at : NmOk "_law_at" := by constructor <;> decide
theorem nq__law_bent_text : NmOk "_law_bent_text" := by constructor <;> decide
theorem nq__law_cell : NmOk "_law_cell" := by constructor <;> decide
theorem nq__law_d : NmOk "_law_d" := by constructor <;> decide
theorem nq__law_deed : NmOk "_law_deed" := by constructor <;> decide
theorem nq__law_due : NmOk "_law_due" := by constructor <;> decide
theorem nq__law_figures : NmOk "_law_figures" := by constructor <;> decide
theorem nq__law_forms : NmOk "_law_forms" := by constructor <;> decide
theorem nq__law_found : NmOk "_law_found" := by constructor <;> decide
theorem nq__law_is_name : NmOk "_law_is_name" := by constructor <;> decide
theorem nq__law_k : NmOk "_law_k" := by constructor <;> decide
theorem nq__law_kind : NmOk "_law_kind" := by constructor <;> decide
theorem nq__law_many : NmOk "_law_many" := by constructor <;> decide
theorem nq__law_name : NmOk "_law_name" := by constructor <;> decide
theorem nq__law_number : NmOk "_law_number" := by constructor <;> decide
theorem nq__law_number_here : NmOk "_law_number_here" := by constructor <;> decide
theorem nq__law_numbers : NmOk "_law_numbers" := by constructor <;> decide
theorem nq__law_numbers_here : NmOk "_law_numbers_here" := by constructor <;> decide
theorem nq__law_odd : NmOk "_law_odd" := by constructor <;> decide
theorem nq__law_one : NmOk "_law_one" := by constructor <;> decide
theorem nq__law_part : NmOk "_law_part" := by constructor <;> decide
theorem nq__law_parts : NmOk "_law_parts" := by constructor <;> decide
theorem nq__law_places : NmOk "_law_places" := by constructor <;> decide
theorem nq__law_reads : NmOk "_law_reads" := by constructor <;> decide
theorem nq__law_rest : NmOk "_law_rest" := by constructor <;> decide
theorem nq__law_row : NmOk "_law_row" := by constructor <;> decide
theorem nq__law_same : NmOk "_law_same" := by constructor <;> decide
theorem nq__law_script : NmOk "_law_script" := by constructor <;> decide
theorem nq__law_seed : NmOk "_law_seed" := by constructor <;> decide
theorem nq__law_sign : NmOk "_law_sign" := by constructor <;> decide
theorem nq__law_signs : NmOk "_law_signs" := by constructor <;> decide
theorem nq__law_some : NmOk "_law_some" := by constructor <;> decide
theorem nq__law_ten : NmOk "_law_ten" := by constructor <;> decide
theorem nq__law_text : NmOk "_law_text" := by constructor <;> decide
theorem nq__law_text_here : NmOk "_law_text_here" := by constructor <;> decide
theorem nq__law_way : NmOk "_law_way" := by constructor <;> decide
theorem nq__law_why : NmOk "_law_why" := by constructor <;> decide
theorem nq__law_why_text : NmOk "_law_why_text" := by constructor <;> decide
theorem nq__law_word : NmOk "_law_word" := by constructor <;> decide
theorem nq__law_word_here : NmOk "_law_word_here" := by constructor <;> decide
theorem nq__law_words : NmOk "_law_words" := by constructor <;> decide
theorem nq_e : NmOk "e" := by constructor <;> decide
theorem nq_figures : NmOk "figures" := by constructor <;> decide
theorem nq_form : NmOk "form" := by constructor <;> decide
theorem nq_is_name : NmOk "is_name" := by constructor <;> decide
theorem nq_kind : NmOk "kind" := by constructor <;> decide
theorem nq_name_in : NmOk "name_in" := by constructor <;> decide
theorem nq_number_in : NmOk "number_in" := by constructor <;> decide
theorem nq_parts_in : NmOk "parts_in" := by constructor <;> decide
theorem nq_read_deed : NmOk "read_deed" := by constructor <;> decide
theorem nq_sign : NmOk "sign" := by constructor <;> decide
theorem nq_text : NmOk "text" := by constructor <;> decide
theorem nq_word : NmOk "word" := by constructor <;> decide
theorem nq_words : NmOk "words" := by constructor <;> decide
abbrev st_is_name : Stmt := topS 6
abbrev N_is_name : List Str := ["text", "sign"]
theorem sc_is_name : FnScope N_is_name ["text"] (defScope st_is_name) := ⟨rfl, rfl, rfl, by decide +kernel, rfl, by decide +kernel, by decide +kernel⟩
theorem nd_is_name : N_is_name.Nodup := sc_is_name.nd
theorem ok_is_name [md : Md] {P : Program} {w : World} {K : PySem.W.Frag} {mg : Str → Option Value} {base : Heap} {cl : Cl} {fa : Addr} {fd : FuncData} (B : Bl mg) (hK : cl.K = K) (F : Fun K "is_name" "is_name" st_is_name fa fd) (gm : mg "is_name" = some (.ref fa)) (bn : Binds K fd ["text"] []) {t_LETTERS : Tok} (C_LETTERS : mg "LETTERS" = some (.str "abcdefghijklmnopqrstuvwxyz" t_LETTERS)) {t_MOST_SIGNS : Tok} (C_MOST_SIGNS : mg "MOST_SIGNS" = some (.int 8 t_MOST_SIGNS)) : Fi P w K mg base cl "is_name" 1 [false] .val f_is_name := by
  refine def_ok (ls := [.val]) (m := m_is_name) (ks' := []) F sc_is_name gm bn rfl rfl rfl (.inl rfl) (fun cdv A outer s H E h0 s0 b0 hr => ?_)
  exact (sb_cons (ss_ret (se_and (se_chain op_le opv_le nox_le op_le opv_le nox_le (se_int).valBor ((sf_Len B (sa_b (se_varB (i := 0) (hq := nq_text)) sa_nil))).valBor ((se_globI C_MOST_SIGNS nq_MOST_SIGNS)).valBor) (se_one (sf_All B (sa_b (SE.toBor (se_comp [("sign", 1)] rfl nd_is_name (si_it (sq_bor (se_varB (i := 0) (hq := nq_text)))) (blkOk_by (N := N_is_name) (sc := defScope st_is_name) (own := [("sign", 1)]) (by decide +kernel)) (by decide) (by decide) (fun _ _ _ _ _ => sg_name nd_is_name) (fun _ _ _ _ _ => sp_nil) (fun _ _ _ _ _ => (se_cmp ((op_inD hr.units65).or op_in_sign) opv_in nox_in ((se_var (i := 1) (hq := nq_sign))).valBor ((se_globS C_LETTERS nq_LETTERS)).valBor)))) sa_nil)))))
  sb_nil)
abbrev st_number_in : Stmt := topS 11
abbrev N_number_in : List Str := ["word", "figures", "sign"]
theorem sc_number_in : FnScope N_number_in ["word"] (defScope st_number_in) := ⟨rfl, rfl, rfl, by decide +kernel, rfl, by decide +kernel, by decide +kernel⟩
theorem nd_number_in : N_number_in.Nodup := sc_number_in.nd
theorem ok_number_in [md : Md] {P : Program} {w : World} {K : PySem.W.Frag} {mg : Str → Option Value} {base : Heap} {cl : Cl} {fa : Addr} {fd : FuncData} (B : Bl mg) (hK : cl.K = K) (F : Fun K "number_in" "number_in" st_number_in fa fd) (gm : mg "number_in" = some (.ref fa)) (bn : Binds K fd ["word"] []) {t_FIGURES : Tok} (C_FIGURES : mg "FIGURES" = some (.str "0123456789" t_FIGURES)) {t_MOST_FIGURES : Tok} (C_MOST_FIGURES : mg "MOST_FIGURES" = some (.int 60 t_MOST_FIGURES)) (X_BadText : XAt P w K mg base cl "BadText" 1) : Fi P w K mg base cl "number_in" 3 [true] .val f_number_in := by
  refine def_ok (ls := [.val, .val]) (m := m_number_in) (ks' := []) F sc_number_in gm bn rfl rfl rfl (.inl rfl) (fun cdv A outer s H E h0 s0 b0 hr => ?_)
  exact (sb_cons (ss_set (i := 1) nd_number_in (se_if (st_cmp (op_eqD hr.units) opv_eq nox_eq ((se_slL ((se_var (i := 0) (hq := nq_word))).valBor so_none (so_some (se_int).valBor))).toBor (se_str).valBor) ((se_slL ((se_var (i := 0) (hq := nq_word))).valBor (so_some (se_int).valBor) so_none)).toVal (se_var (i := 0) (hq := nq_word))))
  (sb_cons (ss_if (st_of (sw_or (st_not (st_chain op_le opv_le nox_le op_le opv_le nox_le (se_int).valBor ((sf_Len B (sa_b ((se_var (i := 1) (hq := nq_figures))).valBor sa_nil))).valBor ((se_globI C_MOST_FIGURES nq_MOST_FIGURES)).valBor)) (sw_or1 (st_not (st_val ((sf_All B (sa_b (SE.toBor (se_comp [("sign", 2)] rfl nd_number_in (si_it (sq_val (se_var (i := 1) (hq := nq_figures)))) (blkOk_by (N := N_number_in) (sc := defScope st_number_in) (own := [("sign", 2)]) (by decide +kernel)) (by decide) (by decide) (fun _ _ _ _ _ => sg_name nd_number_in) (fun _ _ _ _ _ => sp_nil) (fun _ _ _ _ _ => (se_cmp ((op_inD hr.units65).or op_in_sign) opv_in nox_in ((se_var (i := 2) (hq := nq_sign))).valBor ((se_globS C_FIGURES nq_FIGURES)).valBor)))) sa_nil))).valBor)))))
  (sb_cons (ss_raiseAt rfl X_BadText (hr.mono (by decide)) se_int nq_BadText)
  sb_nil)
  sb_nil)
  (sb_cons (ss_if (st_of (sw_and (st_cmp (op_eqD hr.units) opv_eq nox_eq ((se_ix ((se_var (i := 1) (hq := nq_figures))).valBor (se_int).valBor)).valBor (se_str).valBor) (sw_and1 (st_cmp (op_neD hr.units) opv_ne nox_ne ((se_var (i := 0) (hq := nq_word))).valBor (se_str).valBor))))
  (sb_cons (ss_raiseAt rfl X_BadText (hr.mono (by decide)) se_int nq_BadText)
  sb_nil)
  sb_nil)
  (sb_cons (ss_ret (sf_Int B (sa_b ((se_var (i := 0) (hq := nq_word))).valBor sa_nil)))
  sb_nil))))
abbrev st_name_in : Stmt := topS 12
abbrev N_name_in : List Str := ["word"]
theorem sc_name_in : FnScope N_name_in ["word"] (defScope st_name_in) := ⟨rfl, rfl, rfl, by decide +kernel, rfl, by decide +kernel, by decide +kernel⟩
theorem nd_name_in : N_name_in.Nodup := sc_name_in.nd
theorem ok_name_in [md : Md] {P : Program} {w : World} {K : PySem.W.Frag} {mg : Str → Option Value} {base : Heap} {cl : Cl} {fa : Addr} {fd : FuncData} (B : Bl mg) (hK : cl.K = K) (F : Fun K "name_in" "name_in" st_name_in fa fd) (gm : mg "name_in" = some (.ref fa)) (bn : Binds K fd ["word"] []) (X_BadText : XAt P w K mg base cl "BadText" 1) (F_is_name : Fi P w K mg base cl "is_name" 1 [false] .val f_is_name) : Fi P w K mg base cl "name_in" 3 [true] .val f_name_in := by
  refine def_ok (ls := []) (m := m_name_in) (ks' := []) F sc_name_in gm bn rfl rfl rfl (.inl rfl) (fun cdv A outer s H E h0 s0 b0 hr => ?_)
  exact (sb_cons (ss_if (st_not (st_val ((se_call F_is_name (hr.mono (by decide)) (sa_b ((se_var (i := 0) (hq := nq_word))).valBor sa_nil) nq_is_name)).valBor))
  (sb_cons (ss_raiseAt rfl X_BadText (hr.mono (by decide)) se_int nq_BadText)
  sb_nil)
  sb_nil)
  (sb_cons (ss_ret (se_var (i := 0) (hq := nq_word)))
  sb_nil))
abbrev st_parts_in : Stmt := topS 13
abbrev N_parts_in : List Str := ["words", "form", "word", "kind"]
theorem sc_parts_in : FnScope N_parts_in ["words", "form"] (defScope st_parts_in) := ⟨rfl, rfl, rfl, by decide +kernel, rfl, by decide +kernel, by decide +kernel⟩
theorem nd_parts_in : N_parts_in.Nodup := sc_parts_in.nd
theorem ok_parts_in [md : Md] {P : Program} {w : World} {K : PySem.W.Frag} {mg : Str → Option Value} {base : Heap} {cl : Cl} {fa : Addr} {fd : FuncData} (B : Bl mg) (hK : cl.K = K) (F : Fun K "parts_in" "parts_in" st_parts_in fa fd) (gm : mg "parts_in" = some (.ref fa)) (bn : Binds K fd ["words", "form"] []) (X_BadText : XAt P w K mg base cl "BadText" 1) (F_name_in : Fi P w K mg base cl "name_in" 3 [true] .val f_name_in) (F_number_in : Fi P w K mg base cl "number_in" 3 [true] .val f_number_in) : Fi P w K mg base cl "parts_in" 4 [false, false] .val f_parts_in := by
  refine def_ok (ls := [.val, .val]) (m := m_parts_in) (ks' := []) F sc_parts_in gm bn rfl rfl rfl (.inl rfl) (fun cdv A outer s H E h0 s0 b0 hr => ?_)
  exact (sb_cons (ss_if (st_cmp (op_neD hr.units) opv_ne nox_ne ((sf_Len B (sa_b (se_varB (i := 0) (hq := nq_words)) sa_nil))).valBor ((sf_Len B (sa_b (se_varB (i := 1) (hq := nq_form)) sa_nil))).valBor)
  (sb_cons (ss_raiseAt rfl X_BadText (hr.mono (by decide)) se_int nq_BadText)
  sb_nil)
  sb_nil)
  (sb_cons (ss_ret (sf_Tuple B (sa_b (SE.toBor (se_compX [("word", 2), ("kind", 3)] rfl nd_parts_in (si_zipS B.zip (sq_bor (se_varB (i := 0) (hq := nq_words))) (sq_bor (se_varB (i := 1) (hq := nq_form)))) (blkOk_by (N := N_parts_in) (sc := defScope st_parts_in) (own := [("word", 2), ("kind", 3)]) (by decide +kernel)) (by decide) (by decide) (fun _ _ _ _ _ => sg_tup rfl (sgs_cons nd_parts_in (sgs_cons nd_parts_in sgs_nil))) (fun _ _ _ _ _ => sp_nil) (fun _ _ _ _ _ => (se_if (st_cmp (op_eqD hr.units) opv_eq nox_eq ((se_var (i := 3) (hq := nq_kind))).valBor (se_str).valBor) (se_call F_name_in (hr.mono (by decide)) (sa_v (se_var (i := 2) (hq := nq_word)) sa_nil) nq_name_in) (se_call F_number_in (hr.mono (by decide)) (sa_v (se_var (i := 2) (hq := nq_word)) sa_nil) nq_number_in))))) sa_nil)))
  sb_nil))
abbrev st_read_deed : Stmt := topS 14
abbrev N_read_deed : List Str := ["text", "words", "word"]
theorem sc_read_deed : FnScope N_read_deed ["text"] (defScope st_read_deed) := ⟨rfl, rfl, rfl, by decide +kernel, rfl, by decide +kernel, by decide +kernel⟩
theorem nd_read_deed : N_read_deed.Nodup := sc_read_deed.nd
theorem ok_read_deed [md : Md] {P : Program} {w : World} {K : PySem.W.Frag} {mg : Str → Option Value} {base : Heap} {cl : Cl} {fa : Addr} {fd : FuncData} (B : Bl mg) (hK : cl.K = K) (F : Fun K "read_deed" "read_deed" st_read_deed fa fd) (gm : mg "read_deed" = some (.ref fa)) (bn : Binds K fd ["text"] []) (T_FORMS : GTab K w mg "FORMS" tb_FORMS) (X_BadText : XAt P w K mg base cl "BadText" 1) (F_name_in : Fi P w K mg base cl "name_in" 3 [true] .val f_name_in) (F_number_in : Fi P w K mg base cl "number_in" 3 [true] .val f_number_in) (F_parts_in : Fi P w K mg base cl "parts_in" 4 [false, false] .val f_parts_in) : Fi P w K mg base cl "read_deed" 5 [false] .val f_read_deed := by
  refine def_ok (ls := [.val, .val]) (m := m_read_deed) (ks' := []) F sc_read_deed gm bn rfl rfl rfl (.inl rfl) (fun cdv A outer s H E h0 s0 b0 hr => ?_)
  exact (sb_cons (ss_set (i := 1) nd_read_deed ((se_split (se_varB (i := 0) (hq := nq_text)) (se_str).valBor)).toVal)
  (sb_cons (ss_if (st_of (sw_and (st_cmp (op_eqD hr.units) opv_eq nox_eq ((se_ix ((se_var (i := 1) (hq := nq_words))).valBor (se_int).valBor)).valBor (se_str).valBor) (sw_and1 (st_cmp op_gt opv_gt nox_gt ((sf_Len B (sa_b ((se_var (i := 1) (hq := nq_words))).valBor sa_nil))).valBor (se_int).valBor))))
  (sb_cons (ss_ret (se_tup (n := 3) (sa_v se_str (sa_v (se_call F_name_in (hr.mono (by decide)) (sa_v (se_ix ((se_var (i := 1) (hq := nq_words))).valBor (se_int).valBor) sa_nil) nq_name_in) (sa_v (sf_Tuple B (sa_b (SE.toBor (se_compX [("word", 2)] rfl nd_read_deed (si_it (sq_val ((se_slL ((se_var (i := 1) (hq := nq_words))).valBor (so_some (se_int).valBor) so_none)).toVal)) (blkOk_by (N := N_read_deed) (sc := defScope st_read_deed) (own := [("word", 2)]) (by decide +kernel)) (by decide) (by decide) (fun _ _ _ _ _ => sg_name nd_read_deed) (fun _ _ _ _ _ => sp_nil) (fun _ _ _ _ _ => (se_call F_number_in (hr.mono (by decide)) (sa_v (se_var (i := 2) (hq := nq_word)) sa_nil) nq_number_in)))) sa_nil)) sa_nil)))))
  sb_nil)
  sb_nil)
  (sb_cons (ss_if (st_gout T_FORMS ((se_ix ((se_var (i := 1) (hq := nq_words))).valBor (se_int).valBor)).valBor nq_FORMS)
  (sb_cons (ss_raiseAt rfl X_BadText (hr.mono (by decide)) se_int nq_BadText)
  sb_nil)
  sb_nil)
  (sb_cons (ss_ret ((se_add ((se_tup (n := 1) (sa_v (se_ix ((se_var (i := 1) (hq := nq_words))).valBor (se_int).valBor) sa_nil))).valBor ((se_call F_parts_in (hr.mono (by decide)) (sa_b ((se_slL ((se_var (i := 1) (hq := nq_words))).valBor (so_some (se_int).valBor) so_none)).toBor (sa_b ((se_gix T_FORMS ((se_ix ((se_var (i := 1) (hq := nq_words))).valBor (se_int).valBor)).valBor nq_FORMS)).valBor sa_nil)) nq_parts_in)).valBor)).toVal)
  sb_nil))))
abbrev st_numbers_L : Stmt := topS 16
abbrev N_numbers_L : List Str := ["_law_script", "_law_many", "_law_row", "_law_seed", "_law_cell", "_law_rest", "_law_k"]
theorem sc_numbers_L : FnScope N_numbers_L ["_law_script", "_law_many"] (defScope st_numbers_L) := ⟨rfl, rfl, rfl, by decide +kernel, rfl, by decide +kernel, by decide +kernel⟩
theorem nd_numbers_L : N_numbers_L.Nodup := sc_numbers_L.nd
theorem ok_numbers_L [md : Md] {P : Program} {w : World} {K : PySem.W.Frag} {mg : Str → Option Value} {base : Heap} {cl : Cl} {fa : Addr} {fd : FuncData} (B : Bl mg) (hK : cl.K = K) (F : Fun K "_law_numbers" "_law_numbers" st_numbers_L fa fd) (gm : mg "_law_numbers" = some (.ref fa)) (bn : Binds K fd ["_law_script", "_law_many"] [])  : Fi P w K mg base cl "_law_numbers" 1 [false, false] (.own none) f_numbers_L := by
  refine def_ok (ls := [.own none, .val, .val, .val, .val]) (m := m_numbers_L) (ks' := []) F sc_numbers_L gm bn rfl rfl rfl (.inr rfl) (fun cdv A outer s H E h0 s0 b0 hr => ?_)
  exact (sb_cons (ss_set (i := 2) nd_numbers_L (se_lst (n := 0) sa_nil))
  (sb_cons (ss_set (i := 3) nd_numbers_L se_int)
  (sb_cons (ss_for (passes_of rfl) rfl (si_it (sq_val ((se_slS hK (se_varB (i := 0) (hq := nq__law_script)) so_none (so_some (se_int).valBor))).toVal)) (sg_name nd_numbers_L) (fun s => (sb_cons (ss_set (i := 3) nd_numbers_L (se_mod ((se_add ((se_add ((se_mul ((se_var (i := 3) (hq := nq__law_seed))).valBor (se_int).valBor)).toBor ((se_mod ((se_var (i := 4) (hq := nq__law_cell))).valBor (se_int).valBor)).valBor)).toBor (se_int).valBor)).toBor (se_int).valBor))
  (sb_cons (ss_set (i := 5) nd_numbers_L (se_sub ((se_var (i := 4) (hq := nq__law_cell))).valBor ((se_pow (se_int).valBor (se_int).valBor)).valBor))
  (sb_cons (ss_if (st_cmp op_lt opv_lt nox_lt ((se_var (i := 5) (hq := nq__law_rest))).valBor (se_int).valBor)
  (sb_cons (ss_append (i := 2) (hq := nq__law_row) (se_mod ((se_var (i := 4) (hq := nq__law_cell))).valBor (se_int).valBor))
  sb_nil)
  sb_nil)
  (sb_cons (ss_for (passes_of rfl) rfl (si_range1 B.range (se_int).valBor) (sg_name nd_numbers_L) (fun s => (sb_cons (ss_if (st_cmp op_gt opv_gt nox_gt ((se_var (i := 5) (hq := nq__law_rest))).valBor (se_int).valBor)
  (sb_cons (ss_append (i := 2) (hq := nq__law_row) (se_mod ((se_var (i := 5) (hq := nq__law_rest))).valBor (se_int).valBor))
  (sb_cons (ss_set (i := 5) nd_numbers_L (se_fdiv ((se_var (i := 5) (hq := nq__law_rest))).valBor (se_int).valBor))
  sb_nil))
  sb_nil)
  sb_nil)) (by first | decide | simp [Tg.is]))
  sb_nil))))) (by first | decide | simp [Tg.is]))
  (sb_cons (ss_while WB (passes_of rfl) (st_cmp op_lt opv_lt nox_lt ((sf_Len B (sa_b (se_varB (i := 2) (hq := nq__law_row)) sa_nil))).valBor (se_varB (i := 1) (hq := nq__law_many)))
  (sb_cons (ss_set (i := 3) nd_numbers_L (se_mod ((se_add ((se_add ((se_add ((se_mul ((se_var (i := 3) (hq := nq__law_seed))).valBor ((se_var (i := 3) (hq := nq__law_seed))).valBor)).toBor ((se_mul (se_int).valBor ((se_var (i := 3) (hq := nq__law_seed))).valBor)).toBor)).toBor ((se_mul (se_int).valBor ((sf_Len B (sa_b (se_varB (i := 2) (hq := nq__law_row)) sa_nil))).valBor)).toBor)).toBor (se_int).valBor)).toBor (se_int).valBor))
  (sb_cons (ss_append (i := 2) (hq := nq__law_row) (se_mod ((se_fdiv ((se_var (i := 3) (hq := nq__law_seed))).valBor (se_int).valBor)).valBor (se_int).valBor))
  sb_nil)))
  (sb_cons (ss_ret (se_slL (se_varB (i := 2) (hq := nq__law_row)) so_none (so_some (se_varB (i := 1) (hq := nq__law_many)))))
  sb_nil)))))
abbrev st_same_L : Stmt := topS 17
abbrev N_same_L : List Str := ["_law_found", "_law_due", "_law_k"]
theorem sc_same_L : FnScope N_same_L ["_law_found", "_law_due"] (defScope st_same_L) := ⟨rfl, rfl, rfl, by decide +kernel, rfl, by decide +kernel, by decide +kernel⟩
theorem nd_same_L : N_same_L.Nodup := sc_same_L.nd
theorem ok_same_L [md : Md] {P : Program} {w : World} {K : PySem.W.Frag} {mg : Str → Option Value} {base : Heap} {cl : Cl} {fa : Addr} {fd : FuncData} (B : Bl mg) (hK : cl.K = K) (F : Fun K "_law_same" "_law_same" st_same_L fa fd) (gm : mg "_law_same" = some (.ref fa)) (bn : Binds K fd ["_law_found", "_law_due"] [])  : ∀ n, Fi P w K mg base cl "_law_same" n [false, false] .val (f_same_L n)
  | 0 => fi_stuck gm F.kp bn
  | n + 1 => by
    have Fs := ok_same_L (w := w) (P := P) (base := base) (cl := cl) B hK F gm bn  n
    refine def_ok (ls := [.val]) (m := m_same_L (f_same_L n)) (ks' := []) F sc_same_L gm bn rfl rfl rfl (.inl rfl) (fun cdv A outer s H E h0 s0 b0 hr => ?_)
    exact (sb_cons (ss_if (st_isN (se_varB (i := 1) (hq := nq__law_due)))
  (sb_cons (ss_ret (se_isN (se_varB (i := 0) (hq := nq__law_found))))
  sb_nil)
  sb_nil)
  (sb_cons (ss_if (st_val ((se_isiLT (se_varB (i := 1) (hq := nq__law_due)) B.isinstance B.list B.tuple)).valBor)
  (sb_cons (ss_if (st_of (sw_or (st_cmp (op_neD hr.units) opv_ne nox_ne ((si_list B (se_varB (i := 0) (hq := nq__law_found)))).valBor ((si_list B (se_varB (i := 1) (hq := nq__law_due)))).valBor) (sw_or1 (st_cmp (op_neD hr.units) opv_ne nox_ne ((si_tuple B (se_varB (i := 0) (hq := nq__law_found)))).valBor ((si_tuple B (se_varB (i := 1) (hq := nq__law_due)))).valBor))))
  (sb_cons (ss_ret se_bl)
  sb_nil)
  sb_nil)
  (sb_cons (ss_ret (se_and (se_cmp (op_eqD hr.units) opv_eq nox_eq ((sf_Len B (sa_b (se_varB (i := 0) (hq := nq__law_found)) sa_nil))).valBor ((sf_Len B (sa_b (se_varB (i := 1) (hq := nq__law_due)) sa_nil))).valBor) (se_one (sf_All B (sa_b (SE.toBor (se_comp [("_law_k", 2)] rfl nd_same_L (si_range1 B.range ((sf_Len B (sa_b (se_varB (i := 1) (hq := nq__law_due)) sa_nil))).valBor) (blkOk_by (N := N_same_L) (sc := defScope st_same_L) (own := [("_law_k", 2)]) (by decide +kernel)) (by decide) (by decide) (fun _ _ _ _ _ => sg_name nd_same_L) (fun _ _ _ _ _ => sp_nil) (fun _ _ _ _ _ => (se_call Fs (hr.mono (by omega)) (sa_b ((se_ix (se_varB (i := 0) (hq := nq__law_found)) ((se_var (i := 2) (hq := nq__law_k))).valBor)).valBor (sa_b ((se_ix (se_varB (i := 1) (hq := nq__law_due)) ((se_var (i := 2) (hq := nq__law_k))).valBor)).valBor sa_nil)) nq__law_same)))) sa_nil)))))
  sb_nil))
  sb_nil)
  (sb_cons (ss_if (st_of (sw_or (st_cmp (op_neD hr.units) opv_ne nox_ne ((si_bool B (se_varB (i := 0) (hq := nq__law_found)))).valBor ((si_bool B (se_varB (i := 1) (hq := nq__law_due)))).valBor) (sw_or1 (st_cmp (op_neD hr.units) opv_ne nox_ne ((si_str B (se_varB (i := 0) (hq := nq__law_found)))).valBor ((si_str B (se_varB (i := 1) (hq := nq__law_due)))).valBor))))
  (sb_cons (ss_ret se_bl)
  sb_nil)
  sb_nil)
  (sb_cons (ss_ret (se_and (se_cmp (op_eqD hr.units) opv_eq nox_eq ((si_int B (se_varB (i := 0) (hq := nq__law_found)))).valBor ((si_int B (se_varB (i := 1) (hq := nq__law_due)))).valBor) (se_one (se_cmp (op_eqD hr.units) opv_eq nox_eq (se_varB (i := 0) (hq := nq__law_found)) (se_varB (i := 1) (hq := nq__law_due))))))
  sb_nil))))
abbrev st_ten_L : Stmt := topS 18
abbrev N_ten_L : List Str := ["_law_many", "_law_found", "_law_step"]
theorem sc_ten_L : FnScope N_ten_L ["_law_many"] (defScope st_ten_L) := ⟨rfl, rfl, rfl, by decide +kernel, rfl, by decide +kernel, by decide +kernel⟩
theorem nd_ten_L : N_ten_L.Nodup := sc_ten_L.nd
theorem ok_ten_L [md : Md] {P : Program} {w : World} {K : PySem.W.Frag} {mg : Str → Option Value} {base : Heap} {cl : Cl} {fa : Addr} {fd : FuncData} (B : Bl mg) (hK : cl.K = K) (F : Fun K "_law_ten" "_law_ten" st_ten_L fa fd) (gm : mg "_law_ten" = some (.ref fa)) (bn : Binds K fd ["_law_many"] [])  : Fi P w K mg base cl "_law_ten" 1 [false] .val f_ten_L := by
  refine def_ok (ls := [.val, .val]) (m := m_ten_L) (ks' := []) F sc_ten_L gm bn rfl rfl rfl (.inl rfl) (fun cdv A outer s H E h0 s0 b0 hr => ?_)
  exact (sb_cons (ss_set (i := 1) nd_ten_L se_int)
  (sb_cons (ss_for (passes_of rfl) rfl (si_range1 B.range (se_varB (i := 0) (hq := nq__law_many))) (sg_name nd_ten_L) (fun s => (sb_cons (ss_set (i := 1) nd_ten_L ((se_mul ((se_var (i := 1) (hq := nq__law_found))).valBor (se_int).valBor)).toVal)
  sb_nil)) (by first | decide | simp [Tg.is]))
  (sb_cons (ss_ret (se_var (i := 1) (hq := nq__law_found)))
  sb_nil)))
abbrev st_text_L : Stmt := topS 19
abbrev N_text_L : List Str := ["_law_deed", "_law_parts", "_law_part"]
theorem sc_text_L : FnScope N_text_L ["_law_deed"] (defScope st_text_L) := ⟨rfl, rfl, rfl, by decide +kernel, rfl, by decide +kernel, by decide +kernel⟩
theorem nd_text_L : N_text_L.Nodup := sc_text_L.nd
theorem ok_text_L [md : Md] {P : Program} {w : World} {K : PySem.W.Frag} {mg : Str → Option Value} {base : Heap} {cl : Cl} {fa : Addr} {fd : FuncData} (B : Bl mg) (hK : cl.K = K) (F : Fun K "_law_text" "_law_text" st_text_L fa fd) (gm : mg "_law_text" = some (.ref fa)) (bn : Binds K fd ["_law_deed"] [])  : Fi P w K mg base cl "_law_text" 1 [false] .val f_text_L := by
  refine def_ok (ls := [.val, .val]) (m := m_text_L) (ks' := []) F sc_text_L gm bn rfl rfl rfl (.inl rfl) (fun cdv A outer s H E h0 s0 b0 hr => ?_)
  exact (sb_cons (ss_set (i := 1) nd_text_L ((se_if (st_cmp (op_eqD hr.units) opv_eq nox_eq ((se_ix (se_varB (i := 0) (hq := nq__law_deed)) (se_int).valBor)).valBor (se_str).valBor) (sf_List B (sa_b ((se_ix (se_varB (i := 0) (hq := nq__law_deed)) (se_int).valBor)).valBor sa_nil)) (sf_List B (sa_b ((se_slL (se_varB (i := 0) (hq := nq__law_deed)) (so_some (se_int).valBor) so_none)).toBor sa_nil)))).toVal)
  (sb_cons (ss_ret (se_join (se_str).valBor ((se_add ((se_lst (n := 2) (sa_v (se_ix (se_varB (i := 0) (hq := nq__law_deed)) (se_int).valBor) (sa_v (se_ix (se_varB (i := 0) (hq := nq__law_deed)) (se_int).valBor) sa_nil)))).toBor (SE.toBor (se_comp [("_law_part", 2)] rfl nd_text_L (si_it (sq_val (se_var (i := 1) (hq := nq__law_parts)))) (blkOk_by (N := N_text_L) (sc := defScope st_text_L) (own := [("_law_part", 2)]) (by decide +kernel)) (by decide) (by decide) (fun _ _ _ _ _ => sg_name nd_text_L) (fun _ _ _ _ _ => sp_nil) (fun _ _ _ _ _ => (sf_Str B (sa_b ((se_var (i := 2) (hq := nq__law_part))).valBor sa_nil))))))).toBor))
  sb_nil))
abbrev st_any_number_L : Stmt := topS 20
abbrev N_any_number_L : List Str := ["_law_d"]
theorem sc_any_number_L : FnScope N_any_number_L ["_law_d"] (defScope st_any_number_L) := ⟨rfl, rfl, rfl, by decide +kernel, rfl, by decide +kernel, by decide +kernel⟩
theorem nd_any_number_L : N_any_number_L.Nodup := sc_any_number_L.nd
theorem ok_any_number_L [md : Md] {P : Program} {w : World} {K : PySem.W.Frag} {mg : Str → Option Value} {base : Heap} {cl : Cl} {fa : Addr} {fd : FuncData} (B : Bl mg) (hK : cl.K = K) (F : Fun K "_law_any_number" "_law_any_number" st_any_number_L fa fd) (gm : mg "_law_any_number" = some (.ref fa)) (bn : Binds K fd ["_law_d"] []) (F_ten_L : Fi P w K mg base cl "_law_ten" 1 [false] .val f_ten_L) : Fi P w K mg base cl "_law_any_number" 2 [false] .val f_any_number_L := by
  refine def_ok (ls := []) (m := m_any_number_L) (ks' := []) F sc_any_number_L gm bn rfl rfl rfl (.inl rfl) (fun cdv A outer s H E h0 s0 b0 hr => ?_)
  exact (sb_cons (ss_ret ((se_mul ((se_sub ((se_mod ((se_ix (se_varB (i := 0) (hq := nq__law_d)) (se_int).valBor)).valBor (se_int).valBor)).valBor (se_int).valBor)).valBor ((se_add ((se_mul ((se_ix (se_varB (i := 0) (hq := nq__law_d)) (se_int).valBor)).valBor ((se_call F_ten_L (hr.mono (by decide)) (sa_b ((se_mod ((se_ix (se_varB (i := 0) (hq := nq__law_d)) (se_int).valBor)).valBor (se_int).valBor)).valBor sa_nil) nq__law_ten)).valBor)).toBor ((se_mod ((se_ix (se_varB (i := 0) (hq := nq__law_d)) (se_int).valBor)).valBor (se_int).valBor)).valBor)).toBor)).toVal)
  sb_nil)
abbrev st_word_L : Stmt := topS 21
abbrev N_word_L : List Str := ["_law_d", "_law_number_here"]
theorem sc_word_L : FnScope N_word_L ["_law_d"] (defScope st_word_L) := ⟨rfl, rfl, rfl, by decide +kernel, rfl, by decide +kernel, by decide +kernel⟩
theorem nd_word_L : N_word_L.Nodup := sc_word_L.nd
theorem ok_word_L [md : Md] {P : Program} {w : World} {K : PySem.W.Frag} {mg : Str → Option Value} {base : Heap} {cl : Cl} {fa : Addr} {fd : FuncData} (B : Bl mg) (hK : cl.K = K) (F : Fun K "_law_word" "_law_word" st_word_L fa fd) (gm : mg "_law_word" = some (.ref fa)) (bn : Binds K fd ["_law_d"] [])  : Fi P w K mg base cl "_law_word" 1 [false] .val f_word_L := by
  refine def_ok (ls := [.val]) (m := m_word_L) (ks' := []) F sc_word_L gm bn rfl rfl rfl (.inl rfl) (fun cdv A outer s H E h0 s0 b0 hr => ?_)
  exact (sb_cons (ss_ret (se_join (se_str).valBor (SE.toBor (se_comp [("_law_number_here", 1)] rfl nd_word_L (si_it (sq_val ((se_slL (se_varB (i := 0) (hq := nq__law_d)) (so_some (se_int).valBor) (so_some ((se_add (se_int).valBor ((se_mod ((se_ix (se_varB (i := 0) (hq := nq__law_d)) (se_int).valBor)).valBor (se_int).valBor)).valBor)).toBor))).toVal)) (blkOk_by (N := N_word_L) (sc := defScope st_word_L) (own := [("_law_number_here", 1)]) (by decide +kernel)) (by decide) (by decide) (fun _ _ _ _ _ => sg_name nd_word_L) (fun _ _ _ _ _ => sp_nil) (fun _ _ _ _ _ => (se_ix (se_str).valBor ((se_mod ((se_var (i := 1) (hq := nq__law_number_here))).valBor (se_int).valBor)).valBor))))))
  sb_nil)
abbrev st_any_deed_L : Stmt := topS 22
abbrev N_any_deed_L : List Str := ["_law_d", "_law_word_here", "_law_name", "_law_some", "_law_k", "_law_many"]
theorem sc_any_deed_L : FnScope N_any_deed_L ["_law_d"] (defScope st_any_deed_L) := ⟨rfl, rfl, rfl, by decide +kernel, rfl, by decide +kernel, by decide +kernel⟩
theorem nd_any_deed_L : N_any_deed_L.Nodup := sc_any_deed_L.nd
theorem ok_any_deed_L [md : Md] {P : Program} {w : World} {K : PySem.W.Frag} {mg : Str → Option Value} {base : Heap} {cl : Cl} {fa : Addr} {fd : FuncData} (B : Bl mg) (hK : cl.K = K) (F : Fun K "_law_any_deed" "_law_any_deed" st_any_deed_L fa fd) (gm : mg "_law_any_deed" = some (.ref fa)) (bn : Binds K fd ["_law_d"] []) (F_word_L : Fi P w K mg base cl "_law_word" 1 [false] .val f_word_L) (F_any_number_L : Fi P w K mg base cl "_law_any_number" 2 [false] .val f_any_number_L) : Fi P w K mg base cl "_law_any_deed" 3 [false] .val f_any_deed_L := by
  refine def_ok (ls := [.val, .val, .val, .val, .val]) (m := m_any_deed_L) (ks' := []) F sc_any_deed_L gm bn rfl rfl rfl (.inl rfl) (fun cdv A outer s H E h0 s0 b0 hr => ?_)
  exact (sb_cons (ss_set (i := 1) nd_any_deed_L (se_ix ((se_split (se_str).valBor (se_str).valBor)).toBor ((se_mod ((se_ix (se_varB (i := 0) (hq := nq__law_d)) (se_int).valBor)).valBor (se_int).valBor)).valBor))
  (sb_cons (ss_set (i := 2) nd_any_deed_L (se_call F_word_L (hr.mono (by decide)) (sa_b ((se_slL (se_varB (i := 0) (hq := nq__law_d)) (so_some (se_int).valBor) so_none)).toBor sa_nil) nq__law_word))
  (sb_cons (ss_frzB (i := 3) (ss_setLc (i := 3) [("_law_k", 4)] rfl nd_any_deed_L (si_range1 B.range (se_int).valBor) (blkOk_by (N := N_any_deed_L) (sc := defScope st_any_deed_L) (own := [("_law_k", 4)]) (by decide +kernel)) (by decide) (by decide) (fun _ _ _ _ _ => sg_name nd_any_deed_L) (fun _ _ _ _ _ => sp_nil) (fun _ _ _ _ _ => (se_call F_any_number_L (hr.mono (by decide)) (sa_b ((se_slL (se_varB (i := 0) (hq := nq__law_d)) (so_some ((se_add (se_int).valBor ((se_mul (se_int).valBor ((se_var (i := 4) (hq := nq__law_k))).valBor)).toBor)).toBor) so_none)).toBor sa_nil) nq__law_any_number)) (sw_true rfl rfl rfl (by decide +kernel))))
  (sb_cons (ss_if (st_cmp (op_eqD hr.units) opv_eq nox_eq ((se_var (i := 1) (hq := nq__law_word_here))).valBor (se_str).valBor)
  (sb_cons (ss_ret (se_tup (n := 3) (sa_v (se_var (i := 1) (hq := nq__law_word_here)) (sa_v (se_var (i := 2) (hq := nq__law_name)) (sa_v (sf_Tuple B (sa_b (SE.toBor (se_comp [("_law_k", 4)] rfl nd_any_deed_L (si_range1 B.range ((se_mod ((se_ix (se_varB (i := 0) (hq := nq__law_d)) (se_int).valBor)).valBor (se_int).valBor)).valBor) (blkOk_by (N := N_any_deed_L) (sc := defScope st_any_deed_L) (own := [("_law_k", 4)]) (by decide +kernel)) (by decide) (by decide) (fun _ _ _ _ _ => sg_name nd_any_deed_L) (fun _ _ _ _ _ => sp_nil) (fun _ _ _ _ _ => (se_call F_any_number_L (hr.mono (by decide)) (sa_b ((se_slL (se_varB (i := 0) (hq := nq__law_d)) (so_some ((se_add (se_int).valBor ((se_mul (se_int).valBor ((se_var (i := 4) (hq := nq__law_k))).valBor)).toBor)).toBor) so_none)).toBor sa_nil) nq__law_any_number)))) sa_nil)) sa_nil)))))
  sb_nil)
  sb_nil)
  (sb_cons (ss_if (st_cmp (op_eqD hr.units) opv_eq nox_eq ((se_var (i := 1) (hq := nq__law_word_here))).valBor (se_str).valBor)
  (sb_cons (ss_ret (se_tup (n := 4) (sa_v (se_var (i := 1) (hq := nq__law_word_here)) (sa_v (se_var (i := 2) (hq := nq__law_name)) (sa_v (se_call F_word_L (hr.mono (by decide)) (sa_b ((se_slL (se_varB (i := 0) (hq := nq__law_d)) (so_some (se_int).valBor) so_none)).toBor sa_nil) nq__law_word) (sa_v (se_ix ((se_var (i := 3) (hq := nq__law_some))).valBor (se_int).valBor) sa_nil))))))
  sb_nil)
  sb_nil)
  (sb_cons (ss_set (i := 5) nd_any_deed_L (se_dix hr.units65 ((se_disp (xs := ["shut", "walk", "put", "take", "mirror", "late", "strike"]) (sds_cons se_int (sds_cons se_int (sds_cons se_int (sds_cons se_int (sds_cons se_int (sds_cons se_int (sds_cons se_int sds_nil))))))) (by decide) (by decide) (by decide +kernel))).toBor ((se_var (i := 1) (hq := nq__law_word_here))).valBor))
  (sb_cons (ss_ret ((se_add ((se_tup (n := 2) (sa_v (se_var (i := 1) (hq := nq__law_word_here)) (sa_v (se_var (i := 2) (hq := nq__law_name)) sa_nil)))).valBor ((sf_Tuple B (sa_b ((se_slL ((se_var (i := 3) (hq := nq__law_some))).valBor so_none (so_some ((se_var (i := 5) (hq := nq__law_many))).valBor))).toBor sa_nil))).valBor)).toVal)
  sb_nil)))))))
abbrev st_is_name_L : Stmt := topS 23
abbrev N_is_name_L : List Str := ["_law_text_here", "_law_sign"]
theorem sc_is_name_L : FnScope N_is_name_L ["_law_text_here"] (defScope st_is_name_L) := ⟨rfl, rfl, rfl, by decide +kernel, rfl, by decide +kernel, by decide +kernel⟩
theorem nd_is_name_L : N_is_name_L.Nodup := sc_is_name_L.nd
theorem ok_is_name_L [md : Md] {P : Program} {w : World} {K : PySem.W.Frag} {mg : Str → Option Value} {base : Heap} {cl : Cl} {fa : Addr} {fd : FuncData} (B : Bl mg) (hK : cl.K = K) (F : Fun K "_law_is_name" "_law_is_name" st_is_name_L fa fd) (gm : mg "_law_is_name" = some (.ref fa)) (bn : Binds K fd ["_law_text_here"] [])  : Fi P w K mg base cl "_law_is_name" 1 [false] .val f_is_name_L := by
  refine def_ok (ls := [.val]) (m := m_is_name_L) (ks' := []) F sc_is_name_L gm bn rfl rfl rfl (.inl rfl) (fun cdv A outer s H E h0 s0 b0 hr => ?_)
  exact (sb_cons (ss_ret (se_and (se_chain op_le opv_le nox_le op_le opv_le nox_le (se_int).valBor ((sf_Len B (sa_b (se_varB (i := 0) (hq := nq__law_text_here)) sa_nil))).valBor (se_int).valBor) (se_one (sf_All B (sa_b (SE.toBor (se_comp [("_law_sign", 1)] rfl nd_is_name_L (si_it (sq_bor (se_varB (i := 0) (hq := nq__law_text_here)))) (blkOk_by (N := N_is_name_L) (sc := defScope st_is_name_L) (own := [("_law_sign", 1)]) (by decide +kernel)) (by decide) (by decide) (fun _ _ _ _ _ => sg_name nd_is_name_L) (fun _ _ _ _ _ => sp_nil) (fun _ _ _ _ _ => (se_cmp ((op_inD hr.units65).or op_in_sign) opv_in nox_in ((se_var (i := 1) (hq := nq__law_sign))).valBor (se_str).valBor)))) sa_nil)))))
  sb_nil)
abbrev st_number_L : Stmt := topS 24
abbrev N_number_L : List Str := ["_law_word_here", "_law_figures", "_law_sign"]
theorem sc_number_L : FnScope N_number_L ["_law_word_here"] (defScope st_number_L) := ⟨rfl, rfl, rfl, by decide +kernel, rfl, by decide +kernel, by decide +kernel⟩
theorem nd_number_L : N_number_L.Nodup := sc_number_L.nd
theorem ok_number_L [md : Md] {P : Program} {w : World} {K : PySem.W.Frag} {mg : Str → Option Value} {base : Heap} {cl : Cl} {fa : Addr} {fd : FuncData} (B : Bl mg) (hK : cl.K = K) (F : Fun K "_law_number" "_law_number" st_number_L fa fd) (gm : mg "_law_number" = some (.ref fa)) (bn : Binds K fd ["_law_word_here"] [])  : Fi P w K mg base cl "_law_number" 1 [true] .val f_number_L := by
  refine def_ok (ls := [.val, .val]) (m := m_number_L) (ks' := []) F sc_number_L gm bn rfl rfl rfl (.inl rfl) (fun cdv A outer s H E h0 s0 b0 hr => ?_)
  exact (sb_cons (ss_set (i := 1) nd_number_L (se_if (st_cmp (op_eqD hr.units) opv_eq nox_eq ((se_slL ((se_var (i := 0) (hq := nq__law_word_here))).valBor so_none (so_some (se_int).valBor))).toBor (se_str).valBor) ((se_slL ((se_var (i := 0) (hq := nq__law_word_here))).valBor (so_some (se_int).valBor) so_none)).toVal (se_var (i := 0) (hq := nq__law_word_here))))
  (sb_cons (ss_if (st_of (sw_or (st_not (st_chain op_le opv_le nox_le op_le opv_le nox_le (se_int).valBor ((sf_Len B (sa_b ((se_var (i := 1) (hq := nq__law_figures))).valBor sa_nil))).valBor (se_int).valBor)) (sw_or1 (st_not (st_val ((sf_All B (sa_b (SE.toBor (se_comp [("_law_sign", 2)] rfl nd_number_L (si_it (sq_val (se_var (i := 1) (hq := nq__law_figures)))) (blkOk_by (N := N_number_L) (sc := defScope st_number_L) (own := [("_law_sign", 2)]) (by decide +kernel)) (by decide) (by decide) (fun _ _ _ _ _ => sg_name nd_number_L) (fun _ _ _ _ _ => sp_nil) (fun _ _ _ _ _ => (se_cmp ((op_inD hr.units65).or op_in_sign) opv_in nox_in ((se_var (i := 2) (hq := nq__law_sign))).valBor (se_str).valBor)))) sa_nil))).valBor)))))
  (sb_cons (ss_ret se_non)
  sb_nil)
  sb_nil)
  (sb_cons (ss_if (st_of (sw_and (st_cmp (op_eqD hr.units) opv_eq nox_eq ((se_ix ((se_var (i := 1) (hq := nq__law_figures))).valBor (se_int).valBor)).valBor (se_str).valBor) (sw_and1 (st_cmp (op_neD hr.units) opv_ne nox_ne ((se_var (i := 0) (hq := nq__law_word_here))).valBor (se_str).valBor))))
  (sb_cons (ss_ret se_non)
  sb_nil)
  sb_nil)
  (sb_cons (ss_ret (sf_Int B (sa_b ((se_var (i := 0) (hq := nq__law_word_here))).valBor sa_nil)))
  sb_nil))))
abbrev st_reads_L : Stmt := topS 25
abbrev N_reads_L : List Str := ["_law_text_here", "_law_forms", "_law_words", "_law_places", "_law_word_here", "_law_found", "_law_kind", "_law_part"]
theorem sc_reads_L : FnScope N_reads_L ["_law_text_here"] (defScope st_reads_L) := ⟨rfl, rfl, rfl, by decide +kernel, rfl, by decide +kernel, by decide +kernel⟩
theorem nd_reads_L : N_reads_L.Nodup := sc_reads_L.nd
theorem ok_reads_L [md : Md] {P : Program} {w : World} {K : PySem.W.Frag} {mg : Str → Option Value} {base : Heap} {cl : Cl} {fa : Addr} {fd : FuncData} (B : Bl mg) (hK : cl.K = K) (F : Fun K "_law_reads" "_law_reads" st_reads_L fa fd) (gm : mg "_law_reads" = some (.ref fa)) (bn : Binds K fd ["_law_text_here"] []) (F_number_L : Fi P w K mg base cl "_law_number" 1 [true] .val f_number_L) (F_is_name_L : Fi P w K mg base cl "_law_is_name" 1 [false] .val f_is_name_L) : Fi P w K mg base cl "_law_reads" 2 [false] .val f_reads_L := by
  refine def_ok (ls := [.val, .val, .val, .val, .val, .val, .val]) (m := m_reads_L) (ks' := []) F sc_reads_L gm bn rfl rfl rfl (.inl rfl) (fun cdv A outer s H E h0 s0 b0 hr => ?_)
  exact (sb_cons (ss_set (i := 1) nd_reads_L ((se_disp (xs := ["shut", "walk", "put", "take", "mirror", "lay"]) (sds_cons se_str (sds_cons se_str (sds_cons se_str (sds_cons se_str (sds_cons se_str (sds_cons se_str sds_nil)))))) (by decide) (by decide) (by decide +kernel))).toVal)
  (sb_cons (ss_set (i := 1) nd_reads_L ((sf_DictP B (sa_b ((se_add ((se_listItems B ((se_var (i := 1) (hq := nq__law_forms))).valBor)).toBor ((se_lst (n := 2) (sa_v (se_tup (n := 2) (sa_v se_str (sa_v se_str sa_nil))) (sa_v (se_tup (n := 2) (sa_v se_str (sa_v se_str sa_nil))) sa_nil)))).toBor)).toBor sa_nil))).toVal)
  (sb_cons (ss_set (i := 2) nd_reads_L ((se_split (se_varB (i := 0) (hq := nq__law_text_here)) (se_str).valBor)).toVal)
  (sb_cons (ss_if (st_of (sw_and (st_cmp (op_eqD hr.units) opv_eq nox_eq ((se_ix ((se_var (i := 2) (hq := nq__law_words))).valBor (se_int).valBor)).valBor (se_str).valBor) (sw_and1 (st_cmp op_gt opv_gt nox_gt ((sf_Len B (sa_b ((se_var (i := 2) (hq := nq__law_words))).valBor sa_nil))).valBor (se_int).valBor))))
  (sb_cons (ss_frzB (i := 3) (ss_setLc (i := 3) [("_law_word_here", 4)] rfl nd_reads_L (si_it (sq_val ((se_slL ((se_var (i := 2) (hq := nq__law_words))).valBor (so_some (se_int).valBor) so_none)).toVal)) (blkOk_by (N := N_reads_L) (sc := defScope st_reads_L) (own := [("_law_word_here", 4)]) (by decide +kernel)) (by decide) (by decide) (fun _ _ _ _ _ => sg_name nd_reads_L) (fun _ _ _ _ _ => sp_nil) (fun _ _ _ _ _ => (se_call F_number_L (hr.mono (by decide)) (sa_v (se_var (i := 4) (hq := nq__law_word_here)) sa_nil) nq__law_number)) (sw_true rfl rfl rfl (by decide +kernel))))
  (sb_cons (ss_ret (se_if (st_of (sw_and (st_val ((se_call F_is_name_L (hr.mono (by decide)) (sa_b ((se_ix ((se_var (i := 2) (hq := nq__law_words))).valBor (se_int).valBor)).valBor sa_nil) nq__law_is_name)).valBor) (sw_and1 (st_cmp (op_notInD hr.units65) opv_notIn nox_notIn (se_non).valBor ((se_var (i := 3) (hq := nq__law_places))).valBor)))) (se_tup (n := 3) (sa_v se_str (sa_v (se_ix ((se_var (i := 2) (hq := nq__law_words))).valBor (se_int).valBor) (sa_v (sf_Tuple B (sa_b ((se_var (i := 3) (hq := nq__law_places))).valBor sa_nil)) sa_nil)))) se_non))
  sb_nil))
  sb_nil)
  (sb_cons (ss_if (st_of (sw_or (st_dout hr.units65 ((se_ix ((se_var (i := 2) (hq := nq__law_words))).valBor (se_int).valBor)).valBor ((se_var (i := 1) (hq := nq__law_forms))).valBor) (sw_or1 (st_cmp (op_neD hr.units) opv_ne nox_ne ((sf_Len B (sa_b ((se_var (i := 2) (hq := nq__law_words))).valBor sa_nil))).valBor ((se_add ((sf_Len B (sa_b ((se_dix hr.units65 ((se_var (i := 1) (hq := nq__law_forms))).valBor ((se_ix ((se_var (i := 2) (hq := nq__law_words))).valBor (se_int).valBor)).valBor)).valBor sa_nil))).valBor (se_int).valBor)).toBor))))
  (sb_cons (ss_ret se_non)
  sb_nil)
  sb_nil)
  (sb_cons (ss_set (i := 5) nd_reads_L (se_tup (n := 1) (sa_v (se_ix ((se_var (i := 2) (hq := nq__law_words))).valBor (se_int).valBor) sa_nil)))
  (sb_cons (ss_for (passes_of rfl) rfl (si_zipS B.zip (sq_val (se_dix hr.units65 ((se_var (i := 1) (hq := nq__law_forms))).valBor ((se_ix ((se_var (i := 2) (hq := nq__law_words))).valBor (se_int).valBor)).valBor)) (sq_val ((se_slL ((se_var (i := 2) (hq := nq__law_words))).valBor (so_some (se_int).valBor) so_none)).toVal)) (sg_tup rfl (sgs_cons nd_reads_L (sgs_cons nd_reads_L sgs_nil))) (fun s => (sb_cons (ss_set (i := 7) nd_reads_L (se_if (st_cmp (op_eqD hr.units) opv_eq nox_eq ((se_var (i := 6) (hq := nq__law_kind))).valBor (se_str).valBor) (se_call F_number_L (hr.mono (by decide)) (sa_v (se_var (i := 4) (hq := nq__law_word_here)) sa_nil) nq__law_number) (se_ix ((se_lst (n := 2) (sa_v se_non (sa_v (se_var (i := 4) (hq := nq__law_word_here)) sa_nil)))).toBor ((sf_Int B (sa_b ((se_call F_is_name_L (hr.mono (by decide)) (sa_b ((se_var (i := 4) (hq := nq__law_word_here))).valBor sa_nil) nq__law_is_name)).valBor sa_nil))).valBor)))
  (sb_cons (ss_if (st_isN ((se_var (i := 7) (hq := nq__law_part))).valBor)
  (sb_cons (ss_ret se_non)
  sb_nil)
  sb_nil)
  (sb_cons (ss_set (i := 5) nd_reads_L ((se_add ((se_var (i := 5) (hq := nq__law_found))).valBor ((se_tup (n := 1) (sa_v (se_var (i := 7) (hq := nq__law_part)) sa_nil))).valBor)).toVal)
  sb_nil)))) (by first | decide | simp [Tg.is]))
  (sb_cons (ss_ret (se_var (i := 5) (hq := nq__law_found)))
  sb_nil))))))))
abbrev st_bent_text_L : Stmt := topS 26
abbrev N_bent_text_L : List Str := ["_law_text_here", "_law_d", "_law_signs", "_law_words", "_law_at", "_law_one", "_law_sign", "_law_odd", "_law_way"]
theorem sc_bent_text_L : FnScope N_bent_text_L ["_law_text_here", "_law_d"] (defScope st_bent_text_L) := ⟨rfl, rfl, rfl, by decide +kernel, rfl, by decide +kernel, by decide +kernel⟩
theorem nd_bent_text_L : N_bent_text_L.Nodup := sc_bent_text_L.nd
theorem ok_bent_text_L [md : Md] {P : Program} {w : World} {K : PySem.W.Frag} {mg : Str → Option Value} {base : Heap} {cl : Cl} {fa : Addr} {fd : FuncData} (B : Bl mg) (hK : cl.K = K) (F : Fun K "_law_bent_text" "_law_bent_text" st_bent_text_L fa fd) (gm : mg "_law_bent_text" = some (.ref fa)) (bn : Binds K fd ["_law_text_here", "_law_d"] [])  : Fi P w K mg base cl "_law_bent_text" 1 [true, false] .val f_bent_text_L := by
  refine def_ok (ls := [.val, .val, .val, .val, .val, .val, .val]) (m := m_bent_text_L) (ks' := []) F sc_bent_text_L gm bn rfl rfl rfl (.inl rfl) (fun cdv A outer s H E h0 s0 b0 hr => ?_)
  exact (sb_cons (ss_set (i := 2) nd_bent_text_L se_str)
  (sb_cons (ss_set (i := 3) nd_bent_text_L ((se_split ((se_var (i := 0) (hq := nq__law_text_here))).valBor (se_str).valBor)).toVal)
  (sb_cons (ss_set (i := 4) nd_bent_text_L (se_mod ((se_ix (se_varB (i := 1) (hq := nq__law_d)) (se_int).valBor)).valBor ((se_add ((sf_Len B (sa_b ((se_var (i := 0) (hq := nq__law_text_here))).valBor sa_nil))).valBor (se_int).valBor)).toBor))
  (sb_cons (ss_set (i := 5) nd_bent_text_L (se_mod ((se_ix (se_varB (i := 1) (hq := nq__law_d)) (se_int).valBor)).valBor ((sf_Len B (sa_b ((se_var (i := 3) (hq := nq__law_words))).valBor sa_nil))).valBor))
  (sb_cons (ss_set (i := 6) nd_bent_text_L (se_ix ((se_var (i := 2) (hq := nq__law_signs))).valBor ((se_mod ((se_ix (se_varB (i := 1) (hq := nq__law_d)) (se_int).valBor)).valBor ((sf_Len B (sa_b ((se_var (i := 2) (hq := nq__law_signs))).valBor sa_nil))).valBor)).valBor))
  (sb_cons (ss_set (i := 7) nd_bent_text_L ((se_lst (n := 15) (sa_v se_str (sa_v se_str (sa_v se_str (sa_v se_str (sa_v se_str (sa_v se_str (sa_v se_str (sa_v (se_mulS (se_str).valBor (se_int).valBor) (sa_v ((se_add (se_str).valBor ((se_mulS (se_str).valBor (se_int).valBor)).valBor)).toVal (sa_v se_str (sa_v se_str (sa_v se_str (sa_v se_str (sa_v se_str (sa_v se_str sa_nil))))))))))))))))).toVal)
  (sb_cons (ss_set (i := 8) nd_bent_text_L (se_mod ((se_ix (se_varB (i := 1) (hq := nq__law_d)) (se_int).valBor)).valBor (se_int).valBor))
  (sb_cons (ss_if (st_cmp (op_eqD hr.units) opv_eq nox_eq ((se_var (i := 8) (hq := nq__law_way))).valBor (se_int).valBor)
  (sb_cons (ss_ret ((se_add ((se_add ((se_slL ((se_var (i := 0) (hq := nq__law_text_here))).valBor so_none (so_some ((se_var (i := 4) (hq := nq__law_at))).valBor))).toBor ((se_var (i := 6) (hq := nq__law_sign))).valBor)).toBor ((se_slL ((se_var (i := 0) (hq := nq__law_text_here))).valBor (so_some ((se_var (i := 4) (hq := nq__law_at))).valBor) so_none)).toBor)).toVal)
  sb_nil)
  sb_nil)
  (sb_cons (ss_if (st_cmp (op_eqD hr.units) opv_eq nox_eq ((se_var (i := 8) (hq := nq__law_way))).valBor (se_int).valBor)
  (sb_cons (ss_ret ((se_add ((se_slL ((se_var (i := 0) (hq := nq__law_text_here))).valBor so_none (so_some ((se_var (i := 4) (hq := nq__law_at))).valBor))).toBor ((se_slL ((se_var (i := 0) (hq := nq__law_text_here))).valBor (so_some ((se_add ((se_var (i := 4) (hq := nq__law_at))).valBor (se_int).valBor)).toBor) so_none)).toBor)).toVal)
  sb_nil)
  sb_nil)
  (sb_cons (ss_if (st_cmp (op_eqD hr.units) opv_eq nox_eq ((se_var (i := 8) (hq := nq__law_way))).valBor (se_int).valBor)
  (sb_cons (ss_ret ((se_add ((se_add ((se_slL ((se_var (i := 0) (hq := nq__law_text_here))).valBor so_none (so_some ((se_var (i := 4) (hq := nq__law_at))).valBor))).toBor ((se_var (i := 6) (hq := nq__law_sign))).valBor)).toBor ((se_slL ((se_var (i := 0) (hq := nq__law_text_here))).valBor (so_some ((se_add ((se_var (i := 4) (hq := nq__law_at))).valBor (se_int).valBor)).toBor) so_none)).toBor)).toVal)
  sb_nil)
  sb_nil)
  (sb_cons (ss_if (st_cmp (op_eqD hr.units) opv_eq nox_eq ((se_var (i := 8) (hq := nq__law_way))).valBor (se_int).valBor)
  (sb_cons (ss_ret (se_join (se_str).valBor ((se_add ((se_slL ((se_var (i := 3) (hq := nq__law_words))).valBor so_none (so_some ((se_var (i := 5) (hq := nq__law_one))).valBor))).toBor ((se_slL ((se_var (i := 3) (hq := nq__law_words))).valBor (so_some ((se_add ((se_var (i := 5) (hq := nq__law_one))).valBor (se_int).valBor)).toBor) so_none)).toBor)).toBor))
  sb_nil)
  sb_nil)
  (sb_cons (ss_if (st_cmp (op_eqD hr.units) opv_eq nox_eq ((se_var (i := 8) (hq := nq__law_way))).valBor (se_int).valBor)
  (sb_cons (ss_ret (se_join (se_str).valBor ((se_add ((se_add ((se_slL ((se_var (i := 3) (hq := nq__law_words))).valBor so_none (so_some ((se_var (i := 5) (hq := nq__law_one))).valBor))).toBor ((se_lst (n := 2) (sa_v (se_ix ((se_var (i := 3) (hq := nq__law_words))).valBor ((se_var (i := 5) (hq := nq__law_one))).valBor) (sa_v (se_ix ((se_var (i := 3) (hq := nq__law_words))).valBor ((se_var (i := 5) (hq := nq__law_one))).valBor) sa_nil)))).toBor)).toBor ((se_slL ((se_var (i := 3) (hq := nq__law_words))).valBor (so_some ((se_add ((se_var (i := 5) (hq := nq__law_one))).valBor (se_int).valBor)).toBor) so_none)).toBor)).toBor))
  sb_nil)
  sb_nil)
  (sb_cons (ss_if (st_cmp (op_eqD hr.units) opv_eq nox_eq ((se_var (i := 8) (hq := nq__law_way))).valBor (se_int).valBor)
  (sb_cons (ss_ret (se_join (se_str).valBor ((se_add ((se_add ((se_slL ((se_var (i := 3) (hq := nq__law_words))).valBor so_none (so_some ((se_var (i := 5) (hq := nq__law_one))).valBor))).toBor ((se_lst (n := 1) (sa_v (se_ix ((se_var (i := 7) (hq := nq__law_odd))).valBor ((se_mod ((se_ix (se_varB (i := 1) (hq := nq__law_d)) (se_int).valBor)).valBor (se_int).valBor)).valBor) sa_nil))).toBor)).toBor ((se_slL ((se_var (i := 3) (hq := nq__law_words))).valBor (so_some ((se_add ((se_var (i := 5) (hq := nq__law_one))).valBor (se_int).valBor)).toBor) so_none)).toBor)).toBor))
  sb_nil)
  sb_nil)
  (sb_cons (ss_ret (se_ix ((se_lst (n := 7) (sa_tok ((se_var (i := 0) (hq := nq__law_text_here))).valBor (sat_v ((se_add (se_str).valBor ((se_var (i := 0) (hq := nq__law_text_here))).valBor)).toVal (sat_repl ((se_var (i := 0) (hq := nq__law_text_here))).valBor (sat_of (sa_v ((se_add ((se_var (i := 0) (hq := nq__law_text_here))).valBor (se_str).valBor)).toVal (sa_v se_str (sa_v (se_upper ((se_var (i := 0) (hq := nq__law_text_here))).valBor) (sa_v (se_var (i := 0) (hq := nq__law_text_here)) sa_nil)))))))))).toBor ((se_mod ((se_ix (se_varB (i := 1) (hq := nq__law_d)) (se_int).valBor)).valBor (se_int).valBor)).valBor))
  sb_nil))))))))))))))
abbrev st_why_text_L : Stmt := topS 27
abbrev N_why_text_L : List Str := ["_law_text_here", "_law_why", "e"]
theorem sc_why_text_L : FnScope N_why_text_L ["_law_text_here"] (defScope st_why_text_L) := ⟨rfl, rfl, rfl, by decide +kernel, rfl, by decide +kernel, by decide +kernel⟩
theorem nd_why_text_L : N_why_text_L.Nodup := sc_why_text_L.nd
open ModeZ in
theorem ok_why_text_L {P : Program} {w : World} {K : PySem.W.Frag} {mg : Str → Option Value} {base : Heap} {cl : Cl} {fa : Addr} {fd : FuncData} (B : Bl mg) (hK : cl.K = K) (F : Fun K "_law_why_text" "_law_why_text" st_why_text_L fa fd) (gm : mg "_law_why_text" = some (.ref fa)) (bn : Binds K fd ["_law_text_here"] []) (HS_BadText : HSub K mg cl "BadText") (HS_CreelError : HSub K mg cl "CreelError") (XF_BadText : XfAt K cl "BadText") (F_read_deed : Fi P w K mg base cl "read_deed" 5 [false] .val f_read_deed) : Fi P w K mg base cl "_law_why_text" 6 [false] .val f_why_text_L := by
  refine def_ok (ls := [.val, .val]) (m := m_why_text_L) (ks' := []) F sc_why_text_L gm bn rfl rfl rfl (.inl rfl) (fun cdv A outer s H E h0 s0 b0 hr => ?_)
  exact (sb_cons (ss_set (i := 1) nd_why_text_L (se_tup (n := 2) (sa_v se_str (sa_v se_non sa_nil))))
  (sb_cons (ss_try (fun pn xe hp => (sb_cons (ss_set (i := 1) nd_why_text_L (se_tup (n := 2) (sa_v se_str (sa_v (se_call F_read_deed (hr.mono (by decide)) (sa_b (se_varB (i := 0) (hq := nq__law_text_here)) sa_nil) nq_read_deed) sa_nil))))
  sb_nil))
 (HB.named nd_why_text_L rfl rfl rfl HS_BadText nq_BadText rfl (fun ae oe cls dd pn s x hz hf xr sx => ⟨[.bor, .val, .adr ae], _, rfl, rfl, (by exact (sb_cons (ss_set (i := 1) nd_why_text_L (se_tup (n := 2) (sa_v se_str (sa_v (se_excAt hz hf xr sx (by decide) XF_BadText nq_e) sa_nil))))
  sb_nil))⟩)
 (HB.bare HS_CreelError nq_CreelError rfl (fun ae oe cls dd pn s x hz hf xr sx => (sb_cons (ss_set (i := 1) nd_why_text_L (se_tup (n := 2) (sa_v se_str (sa_v se_int sa_nil))))
  sb_nil))
 HB.nil)))
  (sb_cons (ss_ret (se_var (i := 1) (hq := nq__law_why)))
  sb_nil)))
abbrev st_law : Stmt := topS 28
abbrev N_law : List Str := ["_law_script", "_law_numbers_here", "_law_k", "_law_d", "_law_text_here", "_law_deed", "_law_due"]
theorem sc_law : FnScope N_law ["_law_script"] (defScope st_law) := ⟨rfl, rfl, rfl, by decide +kernel, rfl, by decide +kernel, by decide +kernel⟩
theorem nd_law : N_law.Nodup := sc_law.nd
open ModeZ in
theorem ok_law {P : Program} {w : World} {K : PySem.W.Frag} {mg : Str → Option Value} {base : Heap} {cl : Cl} {fa : Addr} {fd : FuncData} (B : Bl mg) (hK : cl.K = K) (F : Fun K "law" "law" st_law fa fd) (F_numbers_L : Fi P w K mg base cl "_law_numbers" 1 [false, false] (.own none) f_numbers_L) (F_any_deed_L : Fi P w K mg base cl "_law_any_deed" 3 [false] .val f_any_deed_L) (F_text_L : Fi P w K mg base cl "_law_text" 1 [false] .val f_text_L) (F_bent_text_L : Fi P w K mg base cl "_law_bent_text" 1 [true, false] .val f_bent_text_L) (F_reads_L : Fi P w K mg base cl "_law_reads" 2 [false] .val f_reads_L) (F_why_text_L : Fi P w K mg base cl "_law_why_text" 6 [false] .val f_why_text_L) (F_same_L : Fi P w K mg base cl "_law_same" 8 [false, false] .val (f_same_L 8)) : FnOk P w K mg base (L2.CX P w) 9 fa fd ["_law_script"] (spV cl [false] .val f_law) := by
  refine def_okF (md := mZ) (ls := [.val, .val, .val, .val, .val, .val]) (m := m_law) (ks' := []) F sc_law rfl rfl rfl (.inl rfl) (fun cdv A outer s H E h0 s0 b0 hr => ?_)
  exact (sb_cons (ss_set (i := 1) nd_law ((se_call F_numbers_L (hr.mono (by decide)) (sa_b (se_varB (i := 0) (hq := nq__law_script)) (sa_b (se_int).valBor sa_nil)) nq__law_numbers)).toVal)
  (sb_cons (ss_for (passes_of rfl) rfl (si_range1 B.range (se_int).valBor) (sg_name nd_law) (fun s => (sb_cons (ss_set (i := 3) nd_law ((se_slL ((se_var (i := 1) (hq := nq__law_numbers_here))).valBor (so_some ((se_mul (se_int).valBor ((se_var (i := 2) (hq := nq__law_k))).valBor)).toBor) so_none)).toVal)
  (sb_cons (ss_set (i := 4) nd_law (se_call F_text_L (hr.mono (by decide)) (sa_b ((se_call F_any_deed_L (hr.mono (by decide)) (sa_b ((se_var (i := 3) (hq := nq__law_d))).valBor sa_nil) nq__law_any_deed)).valBor sa_nil) nq__law_text))
  (sb_cons (ss_set (i := 4) nd_law (se_call F_bent_text_L (hr.mono (by decide)) (sa_v (se_var (i := 4) (hq := nq__law_text_here)) (sa_b ((se_slL ((se_var (i := 3) (hq := nq__law_d))).valBor (so_some (se_int).valBor) so_none)).toBor sa_nil)) nq__law_bent_text))
  (sb_cons (ss_if (st_cmp (op_eqD hr.units) opv_eq nox_eq ((se_mod ((se_ix ((se_var (i := 3) (hq := nq__law_d))).valBor (se_int).valBor)).valBor (se_int).valBor)).valBor (se_int).valBor)
  (sb_cons (ss_set (i := 4) nd_law (se_call F_bent_text_L (hr.mono (by decide)) (sa_v (se_var (i := 4) (hq := nq__law_text_here)) (sa_b ((se_slL ((se_var (i := 3) (hq := nq__law_d))).valBor (so_some (se_int).valBor) so_none)).toBor sa_nil)) nq__law_bent_text))
  sb_nil)
  sb_nil)
  (sb_cons (ss_set (i := 5) nd_law (se_call F_reads_L (hr.mono (by decide)) (sa_b ((se_var (i := 4) (hq := nq__law_text_here))).valBor sa_nil) nq__law_reads))
  (sb_cons (ss_set (i := 6) nd_law (se_if (st_isN ((se_var (i := 5) (hq := nq__law_deed))).valBor) (se_tup (n := 2) (sa_v se_str (sa_v se_int sa_nil))) (se_tup (n := 2) (sa_v se_str (sa_v (se_var (i := 5) (hq := nq__law_deed)) sa_nil)))))
  (sb_cons (ss_if (st_not (st_val ((se_call F_same_L (hr.mono (by decide)) (sa_b ((se_call F_why_text_L (hr.mono (by decide)) (sa_b ((se_var (i := 4) (hq := nq__law_text_here))).valBor sa_nil) nq__law_why_text)).valBor (sa_b ((se_var (i := 6) (hq := nq__law_due))).valBor sa_nil)) nq__law_same)).valBor))
  (sb_cons (ss_ret se_bl)
  sb_nil)
  sb_nil)
  sb_nil)))))))) (by first | decide | simp [Tg.is]))
  (sb_cons (ss_ret se_bl)
  sb_nil)))
abbrev in_BadText : Stmt := initS 2
theorem isc_BadText : FnScope ["self", "at"] ["self", "at"] (defScope in_BadText) := ⟨rfl, rfl, rfl, by decide +kernel, rfl, by decide +kernel, by decide +kernel⟩
theorem bn_is_name {K : PySem.W.Frag} {fa : Addr} {fd : FuncData} (F : Fun K "is_name" "is_name" st_is_name fa fd) : Binds K fd ["text"] [] := F.binds fun _ _ _ _ _ _ us hl => match us, hl with | [_], _ => rfl
theorem bn_number_in {K : PySem.W.Frag} {fa : Addr} {fd : FuncData} (F : Fun K "number_in" "number_in" st_number_in fa fd) : Binds K fd ["word"] [] := F.binds fun _ _ _ _ _ _ us hl => match us, hl with | [_], _ => rfl
theorem bn_name_in {K : PySem.W.Frag} {fa : Addr} {fd : FuncData} (F : Fun K "name_in" "name_in" st_name_in fa fd) : Binds K fd ["word"] [] := F.binds fun _ _ _ _ _ _ us hl => match us, hl with | [_], _ => rfl
theorem bn_parts_in {K : PySem.W.Frag} {fa : Addr} {fd : FuncData} (F : Fun K "parts_in" "parts_in" st_parts_in fa fd) : Binds K fd ["words", "form"] [] := F.binds fun _ _ _ _ _ _ us hl => match us, hl with | [_, _], _ => rfl
theorem bn_read_deed {K : PySem.W.Frag} {fa : Addr} {fd : FuncData} (F : Fun K "read_deed" "read_deed" st_read_deed fa fd) : Binds K fd ["text"] [] := F.binds fun _ _ _ _ _ _ us hl => match us, hl with | [_], _ => rfl
theorem bn_numbers_L {K : PySem.W.Frag} {fa : Addr} {fd : FuncData} (F : Fun K "_law_numbers" "_law_numbers" st_numbers_L fa fd) : Binds K fd ["_law_script", "_law_many"] [] := F.binds fun _ _ _ _ _ _ us hl => match us, hl with | [_, _], _ => rfl
theorem bn_same_L {K : PySem.W.Frag} {fa : Addr} {fd : FuncData} (F : Fun K "_law_same" "_law_same" st_same_L fa fd) : Binds K fd ["_law_found", "_law_due"] [] := F.binds fun _ _ _ _ _ _ us hl => match us, hl with | [_, _], _ => rfl
theorem bn_ten_L {K : PySem.W.Frag} {fa : Addr} {fd : FuncData} (F : Fun K "_law_ten" "_law_ten" st_ten_L fa fd) : Binds K fd ["_law_many"] [] := F.binds fun _ _ _ _ _ _ us hl => match us, hl with | [_], _ => rfl
theorem bn_text_L {K : PySem.W.Frag} {fa : Addr} {fd : FuncData} (F : Fun K "_law_text" "_law_text" st_text_L fa fd) : Binds K fd ["_law_deed"] [] := F.binds fun _ _ _ _ _ _ us hl => match us, hl with | [_], _ => rfl
theorem bn_any_number_L {K : PySem.W.Frag} {fa : Addr} {fd : FuncData} (F : Fun K "_law_any_number" "_law_any_number" st_any_number_L fa fd) : Binds K fd ["_law_d"] [] := F.binds fun _ _ _ _ _ _ us hl => match us, hl with | [_], _ => rfl
theorem bn_word_L {K : PySem.W.Frag} {fa : Addr} {fd : FuncData} (F : Fun K "_law_word" "_law_word" st_word_L fa fd) : Binds K fd ["_law_d"] [] := F.binds fun _ _ _ _ _ _ us hl => match us, hl with | [_], _ => rfl
theorem bn_any_deed_L {K : PySem.W.Frag} {fa : Addr} {fd : FuncData} (F : Fun K "_law_any_deed" "_law_any_deed" st_any_deed_L fa fd) : Binds K fd ["_law_d"] [] := F.binds fun _ _ _ _ _ _ us hl => match us, hl with | [_], _ => rfl
theorem bn_is_name_L {K : PySem.W.Frag} {fa : Addr} {fd : FuncData} (F : Fun K "_law_is_name" "_law_is_name" st_is_name_L fa fd) : Binds K fd ["_law_text_here"] [] := F.binds fun _ _ _ _ _ _ us hl => match us, hl with | [_], _ => rfl
theorem bn_number_L {K : PySem.W.Frag} {fa : Addr} {fd : FuncData} (F : Fun K "_law_number" "_law_number" st_number_L fa fd) : Binds K fd ["_law_word_here"] [] := F.binds fun _ _ _ _ _ _ us hl => match us, hl with | [_], _ => rfl
theorem bn_reads_L {K : PySem.W.Frag} {fa : Addr} {fd : FuncData} (F : Fun K "_law_reads" "_law_reads" st_reads_L fa fd) : Binds K fd ["_law_text_here"] [] := F.binds fun _ _ _ _ _ _ us hl => match us, hl with | [_], _ => rfl
theorem bn_bent_text_L {K : PySem.W.Frag} {fa : Addr} {fd : FuncData} (F : Fun K "_law_bent_text" "_law_bent_text" st_bent_text_L fa fd) : Binds K fd ["_law_text_here", "_law_d"] [] := F.binds fun _ _ _ _ _ _ us hl => match us, hl with | [_, _], _ => rfl
theorem bn_why_text_L {K : PySem.W.Frag} {fa : Addr} {fd : FuncData} (F : Fun K "_law_why_text" "_law_why_text" st_why_text_L fa fd) : Binds K fd ["_law_text_here"] [] := F.binds fun _ _ _ _ _ _ us hl => match us, hl with | [_], _ => rfl
theorem bl_mk {K : PySem.W.Frag} {h : Heap} {mg : Str → Option Value} (X : K.In h) (G : h.Ns mainGlobals mg) (z_len : PySem.W.nsIn K mainGlobals "len" = some none) (z_range : PySem.W.nsIn K mainGlobals "range" = some none) (z_min : PySem.W.nsIn K mainGlobals "min" = some none) (z_max : PySem.W.nsIn K mainGlobals "max" = some none) (z_abs : PySem.W.nsIn K mainGlobals "abs" = some none) (z_sum : PySem.W.nsIn K mainGlobals "sum" = some none) (z_all : PySem.W.nsIn K mainGlobals "all" = some none) (z_any : PySem.W.nsIn K mainGlobals "any" = some none) (z_sorted : PySem.W.nsIn K mainGlobals "sorted" = some none) (z_list : PySem.W.nsIn K mainGlobals "list" = some none) (z_tuple : PySem.W.nsIn K mainGlobals "tuple" = some none) (z_int : PySem.W.nsIn K mainGlobals "int" = some none) (z_bool : PySem.W.nsIn K mainGlobals "bool" = some none) (z_str : PySem.W.nsIn K mainGlobals "str" = some none) (z_isinstance : PySem.W.nsIn K mainGlobals "isinstance" = some none) (z_zip : PySem.W.nsIn K mainGlobals "zip" = some none) (z_enumerate : PySem.W.nsIn K mainGlobals "enumerate" = some none) (z_reversed : PySem.W.nsIn K mainGlobals "reversed" = some none) (z_set : PySem.W.nsIn K mainGlobals "set" = some none) (z_dict : PySem.W.nsIn K mainGlobals "dict" = some none) : Bl mg := ⟨PySem.W.mg_none_of X G z_len, PySem.W.mg_none_of X G z_range, PySem.W.mg_none_of X G z_min, PySem.W.mg_none_of X G z_max, PySem.W.mg_none_of X G z_abs, PySem.W.mg_none_of X G z_sum, PySem.W.mg_none_of X G z_all, PySem.W.mg_none_of X G z_any, PySem.W.mg_none_of X G z_sorted, PySem.W.mg_none_of X G z_list, PySem.W.mg_none_of X G z_tuple, PySem.W.mg_none_of X G z_int, PySem.W.mg_none_of X G z_bool, PySem.W.mg_none_of X G z_str, PySem.W.mg_none_of X G z_isinstance, PySem.W.mg_none_of X G z_zip, PySem.W.mg_none_of X G z_enumerate, PySem.W.mg_none_of X G z_reversed, PySem.W.mg_none_of X G z_set, PySem.W.mg_none_of X G z_dict⟩
open ModeZ in
theorem all_mk {l : PySem.W.OpenLaw} {w : World} {K : PySem.W.Frag} {h : Heap} {mg : Str → Option Value} {fa : Addr} {t_FIGURES : Tok} {t_LETTERS : Tok} {t_MOST_FIGURES : Tok} {t_MOST_SIGNS : Tok} {ta_FORMS : Addr} {a_BadText : Addr} {i_BadText : Addr} {nm_BadText q_BadText : Str} {N_BadText : Addr} {bs_BadText bm_BadText sub_BadText : List Value} {sn_BadText : List Str} {ab_BadText : Bool} {col_BadText : Option Bool} {dd_BadText : Option Addr} {m0_BadText m1_BadText m2_BadText m3_BadText m5_BadText : Option Value} {oc_BadText kV_BadText dc_BadText pm_BadText cd_BadText ct_BadText : Value} {od_BadText an_BadText : Option Addr} {sl_BadText : Array (Option Value)} {a_CreelError : Addr} (X : K.In h) (G : h.Ns mainGlobals mg) (hfa : mg "law" = some (.ref fa))  (C_FIGURES : PySem.W.nsIn K mainGlobals "FIGURES" = some (some (.str "0123456789" t_FIGURES))) (C_LETTERS : PySem.W.nsIn K mainGlobals "LETTERS" = some (some (.str "abcdefghijklmnopqrstuvwxyz" t_LETTERS))) (C_MOST_FIGURES : PySem.W.nsIn K mainGlobals "MOST_FIGURES" = some (some (.int 60 t_MOST_FIGURES))) (C_MOST_SIGNS : PySem.W.nsIn K mainGlobals "MOST_SIGNS" = some (some (.int 8 t_MOST_SIGNS))) (gt_FORMS : PySem.W.nsIn K mainGlobals "FORMS" = some (some (.ref ta_FORMS))) (kt_FORMS : He.dicW K ta_FORMS = some (He.keysIn w.params ["shut", "walk", "put", "take", "mirror", "lay", "late", "strike"])) (st_FORMS : dicS K ta_FORMS = some (tb_FORMS.map some)) (g_BadText : PySem.W.nsIn K mainGlobals "BadText" = some (some (.ref a_BadText))) (k_BadText : PySem.W.keepIn K (.ref a_BadText) = true) (s_BadText : PySem.W.subIn K (.ref a_BadText) (.type "BaseException") = some true) (t_BadText : PySem.W.typeIn K (.ref a_BadText) = some (.type "type")) (l_BadText : K.lookup a_BadText = some (excClassObj nm_BadText q_BadText a_BadText N_BadText bs_BadText bm_BadText true sn_BadText sub_BadText ab_BadText col_BadText dd_BadText m0_BadText m1_BadText m2_BadText m3_BadText m5_BadText "ValueError.__new__")) (r_BadText : PySem.HandSPX.refsVE bm_BadText = true) (sa_BadText : PySem.W.findIn K (.ref a_BadText) "__setattr__" = some (some (.builtin "object.__setattr__"))) (no_BadText : PySem.W.findIn K (.ref a_BadText) "at" = some none) (jn_BadText : PySem.W.findIn K (.ref a_BadText) "__init__" = some (some (.ref i_BadText))) (ti_BadText : PySem.W.typeIn K (.ref i_BadText) = some (.type "function")) (li_BadText : K.lookup i_BadText = some ⟨oc_BadText, od_BadText, .func (PySem.W.fnOf "__init__" "BadText.__init__" (defArgs in_BadText) (defBody in_BadText) (defScope in_BadText) .none kV_BadText dc_BadText pm_BadText an_BadText cd_BadText ct_BadText), sl_BadText⟩) (ci_BadText : PySem.W.codeIn K cd_BadText "BadText.__init__" = true) (ki_BadText : PySem.W.keepIn K (.ref i_BadText) = true) (xf_BadText : PySem.W.findIn K (.ref a_BadText) "__getattribute__" = some (some (.builtin "BaseException.__getattribute__"))) (xg_BadText : PySem.W.findIn K (.ref a_BadText) "__getattr__" = some none) (xh_BadText : PySem.W.hasDictIn K a_BadText = true) (bb_BadText : PySem.W.subIn K (.ref a_BadText) (.type "BaseException") = some true) (ii_BadText : PySem.W.isClsIn K a_BadText = true) (tt_BadText : PySem.W.typeIn K (.ref a_BadText) = some (.type "type")) (e_BadText_BadText : PySem.W.subIn K (.ref a_BadText) (.ref a_BadText) = some true) (g_CreelError : PySem.W.nsIn K mainGlobals "CreelError" = some (some (.ref a_CreelError))) (bb_CreelError : PySem.W.subIn K (.ref a_CreelError) (.type "BaseException") = some true) (ii_CreelError : PySem.W.isClsIn K a_CreelError = true) (tt_CreelError : PySem.W.typeIn K (.ref a_CreelError) = some (.type "type")) (e_BadText_CreelError : PySem.W.subIn K (.ref a_BadText) (.ref a_CreelError) = some true) (A_is_name : AtF K mg "is_name" "is_name" st_is_name) (A_number_in : AtF K mg "number_in" "number_in" st_number_in) (A_name_in : AtF K mg "name_in" "name_in" st_name_in) (A_parts_in : AtF K mg "parts_in" "parts_in" st_parts_in) (A_read_deed : AtF K mg "read_deed" "read_deed" st_read_deed) (A_numbers_L : AtF K mg "_law_numbers" "_law_numbers" st_numbers_L) (A_same_L : AtF K mg "_law_same" "_law_same" st_same_L) (A_ten_L : AtF K mg "_law_ten" "_law_ten" st_ten_L) (A_text_L : AtF K mg "_law_text" "_law_text" st_text_L) (A_any_number_L : AtF K mg "_law_any_number" "_law_any_number" st_any_number_L) (A_word_L : AtF K mg "_law_word" "_law_word" st_word_L) (A_any_deed_L : AtF K mg "_law_any_deed" "_law_any_deed" st_any_deed_L) (A_is_name_L : AtF K mg "_law_is_name" "_law_is_name" st_is_name_L) (A_number_L : AtF K mg "_law_number" "_law_number" st_number_L) (A_reads_L : AtF K mg "_law_reads" "_law_reads" st_reads_L) (A_bent_text_L : AtF K mg "_law_bent_text" "_law_bent_text" st_bent_text_L) (A_why_text_L : AtF K mg "_law_why_text" "_law_why_text" st_why_text_L) (A_law : AtF K mg "law" "law" st_law) (z_len : PySem.W.nsIn K mainGlobals "len" = some none) (z_range : PySem.W.nsIn K mainGlobals "range" = some none) (z_min : PySem.W.nsIn K mainGlobals "min" = some none) (z_max : PySem.W.nsIn K mainGlobals "max" = some none) (z_abs : PySem.W.nsIn K mainGlobals "abs" = some none) (z_sum : PySem.W.nsIn K mainGlobals "sum" = some none) (z_all : PySem.W.nsIn K mainGlobals "all" = some none) (z_any : PySem.W.nsIn K mainGlobals "any" = some none) (z_sorted : PySem.W.nsIn K mainGlobals "sorted" = some none) (z_list : PySem.W.nsIn K mainGlobals "list" = some none) (z_tuple : PySem.W.nsIn K mainGlobals "tuple" = some none) (z_int : PySem.W.nsIn K mainGlobals "int" = some none) (z_bool : PySem.W.nsIn K mainGlobals "bool" = some none) (z_str : PySem.W.nsIn K mainGlobals "str" = some none) (z_isinstance : PySem.W.nsIn K mainGlobals "isinstance" = some none) (z_zip : PySem.W.nsIn K mainGlobals "zip" = some none) (z_enumerate : PySem.W.nsIn K mainGlobals "enumerate" = some none) (z_reversed : PySem.W.nsIn K mainGlobals "reversed" = some none) (z_set : PySem.W.nsIn K mainGlobals "set" = some none) (z_dict : PySem.W.nsIn K mainGlobals "dict" = some none) :
    ∃ fd : FuncData, (∀ (s : Shared) (v : Value), BindsTo s fd ⟨[v], []⟩ [("_law_script", v)]) ∧ ∀ base : Heap, K.In base → base.Ns mainGlobals mg → FnOk l.prog w K mg base (L2.CX l.prog w) 65 fa fd ["_law_script"] (spLaw K) := by
  obtain ⟨fa_is_name, fd_is_name, F_is_name, g_is_name⟩ := A_is_name.ex
  obtain ⟨fa_number_in, fd_number_in, F_number_in, g_number_in⟩ := A_number_in.ex
  obtain ⟨fa_name_in, fd_name_in, F_name_in, g_name_in⟩ := A_name_in.ex
  obtain ⟨fa_parts_in, fd_parts_in, F_parts_in, g_parts_in⟩ := A_parts_in.ex
  obtain ⟨fa_read_deed, fd_read_deed, F_read_deed, g_read_deed⟩ := A_read_deed.ex
  obtain ⟨fa_numbers_L, fd_numbers_L, F_numbers_L, g_numbers_L⟩ := A_numbers_L.ex
  obtain ⟨fa_same_L, fd_same_L, F_same_L, g_same_L⟩ := A_same_L.ex
  obtain ⟨fa_ten_L, fd_ten_L, F_ten_L, g_ten_L⟩ := A_ten_L.ex
  obtain ⟨fa_text_L, fd_text_L, F_text_L, g_text_L⟩ := A_text_L.ex
  obtain ⟨fa_any_number_L, fd_any_number_L, F_any_number_L, g_any_number_L⟩ := A_any_number_L.ex
  obtain ⟨fa_word_L, fd_word_L, F_word_L, g_word_L⟩ := A_word_L.ex
  obtain ⟨fa_any_deed_L, fd_any_deed_L, F_any_deed_L, g_any_deed_L⟩ := A_any_deed_L.ex
  obtain ⟨fa_is_name_L, fd_is_name_L, F_is_name_L, g_is_name_L⟩ := A_is_name_L.ex
  obtain ⟨fa_number_L, fd_number_L, F_number_L, g_number_L⟩ := A_number_L.ex
  obtain ⟨fa_reads_L, fd_reads_L, F_reads_L, g_reads_L⟩ := A_reads_L.ex
  obtain ⟨fa_bent_text_L, fd_bent_text_L, F_bent_text_L, g_bent_text_L⟩ := A_bent_text_L.ex
  obtain ⟨fa_why_text_L, fd_why_text_L, F_why_text_L, g_why_text_L⟩ := A_why_text_L.ex
  obtain ⟨fa_law, fd_law, F_law, g_law⟩ := A_law.ex
  have e := hfa.symm.trans g_law
  cases e
  have B := bl_mk X G z_len z_range z_min z_max z_abs z_sum z_all z_any z_sorted z_list z_tuple z_int z_bool z_str z_isinstance z_zip z_enumerate z_reversed z_set z_dict
  have F := F_law
  obtain ⟨oc, od, kV, doc, pm, an, cdv, ct, osl, e, lk, hcd⟩ := F_law.ex
  subst e
  refine ⟨PySem.W.fnOf "law" "law" (defArgs st_law) (defBody st_law) (defScope st_law) .none kV doc pm an cdv ct, fun s v => .of_eq rfl, fun base _ _ => ?_⟩
  let cl : Cl := ⟨fun n => List.lookup n [("BadText", a_BadText)], K, fun n => List.lookup n []⟩
  have hK : cl.K = K := rfl
  have C_FIGURES := PySem.W.mg_of X G C_FIGURES
  have C_LETTERS := PySem.W.mg_of X G C_LETTERS
  have C_MOST_FIGURES := PySem.W.mg_of X G C_MOST_FIGURES
  have C_MOST_SIGNS := PySem.W.mg_of X G C_MOST_SIGNS
  have T_FORMS : GTab K w mg "FORMS" tb_FORMS := gtab_mk (PySem.W.mg_of X G gt_FORMS) kt_FORMS st_FORMS
  have FI_BadText := fun_mk (st := in_BadText) li_BadText ci_BadText ki_BadText
  have X_BadText : XAt l.prog w K mg base cl "BadText" 1 := xat_mk (st := in_BadText) ⟨⟨_, _, _, _, _, _, _, _, _, _, _, _, _, _, _, l_BadText, r_BadText⟩, sa_BadText, s_BadText, t_BadText, k_BadText⟩ rfl (PySem.W.mg_of X G g_BadText) jn_BadText ti_BadText no_BadText FI_BadText isc_BadText (FI_BadText.binds fun _ _ _ _ _ _ us hl => match us, hl with | [_, _], _ => rfl) rfl (by first | exact Or.inl rfl | exact Or.inr (Or.inl rfl) | exact Or.inr (Or.inr rfl)) (by first | exact Or.inl rfl | exact Or.inr (Or.inl rfl) | exact Or.inr (Or.inr rfl)) (fun _ _ => rfl)
  have HS_BadText : HSub K mg cl "BadText" := ⟨a_BadText, PySem.W.mg_of X G g_BadText, (look_cons (sub_at (C := "BadText") (exm_mk bb_BadText ii_BadText tt_BadText e_BadText_BadText) (by decide)) look_nil)⟩
  have HS_CreelError : HSub K mg cl "CreelError" := ⟨a_CreelError, PySem.W.mg_of X G g_CreelError, (look_cons (sub_at (C := "BadText") (exm_mk bb_CreelError ii_CreelError tt_CreelError e_BadText_CreelError) (by decide)) look_nil)⟩
  have XF_BadText : XfAt K cl "BadText" := xf_ok (a0 := a_BadText) rfl ⟨xf_BadText, xg_BadText, s_BadText, xh_BadText⟩ no_BadText
  have P_is_name := ok_is_name (P := l.prog) (w := w) (base := base) (cl := cl) B hK F_is_name g_is_name (bn_is_name F_is_name) C_LETTERS C_MOST_SIGNS
  have P_number_in := ok_number_in (P := l.prog) (w := w) (base := base) (cl := cl) B hK F_number_in g_number_in (bn_number_in F_number_in) C_FIGURES C_MOST_FIGURES X_BadText
  have P_name_in := ok_name_in (P := l.prog) (w := w) (base := base) (cl := cl) B hK F_name_in g_name_in (bn_name_in F_name_in) X_BadText P_is_name
  have P_parts_in := ok_parts_in (P := l.prog) (w := w) (base := base) (cl := cl) B hK F_parts_in g_parts_in (bn_parts_in F_parts_in) X_BadText P_name_in P_number_in
  have P_read_deed := ok_read_deed (P := l.prog) (w := w) (base := base) (cl := cl) B hK F_read_deed g_read_deed (bn_read_deed F_read_deed) T_FORMS X_BadText P_name_in P_number_in P_parts_in
  have P_numbers_L := ok_numbers_L (P := l.prog) (w := w) (base := base) (cl := cl) B hK F_numbers_L g_numbers_L (bn_numbers_L F_numbers_L) 
  have P_same_L := ok_same_L (P := l.prog) (w := w) (base := base) (cl := cl) B hK F_same_L g_same_L (bn_same_L F_same_L)  8
  have P_ten_L := ok_ten_L (P := l.prog) (w := w) (base := base) (cl := cl) B hK F_ten_L g_ten_L (bn_ten_L F_ten_L) 
  have P_text_L := ok_text_L (P := l.prog) (w := w) (base := base) (cl := cl) B hK F_text_L g_text_L (bn_text_L F_text_L) 
  have P_any_number_L := ok_any_number_L (P := l.prog) (w := w) (base := base) (cl := cl) B hK F_any_number_L g_any_number_L (bn_any_number_L F_any_number_L) P_ten_L
  have P_word_L := ok_word_L (P := l.prog) (w := w) (base := base) (cl := cl) B hK F_word_L g_word_L (bn_word_L F_word_L) 
  have P_any_deed_L := ok_any_deed_L (P := l.prog) (w := w) (base := base) (cl := cl) B hK F_any_deed_L g_any_deed_L (bn_any_deed_L F_any_deed_L) P_word_L P_any_number_L
  have P_is_name_L := ok_is_name_L (P := l.prog) (w := w) (base := base) (cl := cl) B hK F_is_name_L g_is_name_L (bn_is_name_L F_is_name_L) 
  have P_number_L := ok_number_L (P := l.prog) (w := w) (base := base) (cl := cl) B hK F_number_L g_number_L (bn_number_L F_number_L) 
  have P_reads_L := ok_reads_L (P := l.prog) (w := w) (base := base) (cl := cl) B hK F_reads_L g_reads_L (bn_reads_L F_reads_L) P_number_L P_is_name_L
  have P_bent_text_L := ok_bent_text_L (P := l.prog) (w := w) (base := base) (cl := cl) B hK F_bent_text_L g_bent_text_L (bn_bent_text_L F_bent_text_L) 
  have P_why_text_L := ok_why_text_L (P := l.prog) (w := w) (base := base) (cl := cl) B hK F_why_text_L g_why_text_L (bn_why_text_L F_why_text_L) HS_BadText HS_CreelError XF_BadText P_read_deed
  exact law_end hK (ok_law (P := l.prog) (w := w) (base := base) B hK F P_numbers_L P_any_deed_L P_text_L P_bent_text_L P_reads_L P_why_text_L P_same_L) CW.law_ok (by decide)
end CW
end
def CW.looseN : List PySem.Str := ([PySem.Str.ofString "CreelError", PySem.Str.ofString "BadText", PySem.Str.ofString "LETTERS", PySem.Str.ofString "MOST_SIGNS", PySem.Str.ofString "is_name", PySem.Str.ofString "FIGURES", PySem.Str.ofString "MOST_FIGURES", PySem.Str.ofString "FORMS", PySem.Str.ofString "number_in", PySem.Str.ofString "name_in", PySem.Str.ofString "parts_in", PySem.Str.ofString "read_deed", PySem.Str.ofString "_law_numbers", PySem.Str.ofString "_law_same", PySem.Str.ofString "_law_ten", PySem.Str.ofString "_law_text", PySem.Str.ofString "_law_any_number", PySem.Str.ofString "_law_word", PySem.Str.ofString "_law_any_deed", PySem.Str.ofString "_law_is_name"] : List PySem.Str) ++ ([PySem.Str.ofString "_law_number", PySem.Str.ofString "_law_reads", PySem.Str.ofString "_law_bent_text", PySem.Str.ofString "_law_why_text"] : List PySem.Str)
set_option hygiene false in
local macro_rules
  | `(tactic| o_head ($_ $_ $_ $_)) => `(tactic| exact x.elim)
set_option maxRecDepth 100000 in
set_option maxHeartbeats 0 in
theorem CW.pre (x : False) : PySem.Challenge.rw_creelway_k49_texts_of_no_deed.Holds := by
  w_on; o_law; k_head
def CW.par0 : PySem.Params := { strHash := fun _ => 0, shareClass := fun _ => 0, mergeTok := fun t => t, idOf := fun _ => 0, idOfShared := fun _ _ => 0, followText := fun _ => false, idOfImm := fun _ => 0 }
noncomputable def CW.asL : List PySem.Addr := (CW.pre.heap_39 CW.par0).map (fun p => p.1)
theorem CW.asE : ∀ P, CW.asL = (CW.pre.heap_39 P).map (fun p => p.1) := fun _ => by kernel_rfl
set_option maxRecDepth 100000 in
set_option maxHeartbeats 0 in
theorem CW.runF (w : PySem.World) : HandSHeadRun.RunEq (PySem.W.OpenLaw.row PySem.Challenge.rw_creelway_k49_texts_of_no_deed) (PySem.W.view (PySem.W.OpenLaw.row PySem.Challenge.rw_creelway_k49_texts_of_no_deed).prog [28]) (PySem.W.kHook CW.pre.heap_39 CW.asL CW.asE) (fun s => List.map (HandSHeadRun.getT s) CW.asL) 30000 CW.looseN (PySem.World.withFollow w "special-get-raises" false) := by
  intro os
  kernel_rfl
set_option maxRecDepth 100000 in
set_option maxHeartbeats 0 in
theorem CW.runT (w : PySem.World) : HandSHeadRun.RunEq (PySem.W.OpenLaw.row PySem.Challenge.rw_creelway_k49_texts_of_no_deed) (PySem.W.view (PySem.W.OpenLaw.row PySem.Challenge.rw_creelway_k49_texts_of_no_deed).prog [28]) (PySem.W.kHook CW.pre.heap_39 CW.asL CW.asE) (fun s => List.map (HandSHeadRun.getT s) CW.asL) 30000 CW.looseN (PySem.World.withFollow w "special-get-raises" true) := by
  intro os
  kernel_rfl
theorem CW.run : ∀ w : PySem.World, HandSHeadRun.RunEq (PySem.W.OpenLaw.row PySem.Challenge.rw_creelway_k49_texts_of_no_deed) (PySem.W.view (PySem.W.OpenLaw.row PySem.Challenge.rw_creelway_k49_texts_of_no_deed).prog [28]) (PySem.W.kHook CW.pre.heap_39 CW.asL CW.asE) (fun s => List.map (HandSHeadRun.getT s) CW.asL) 30000 CW.looseN w := PySem.W.byRow2 "special-get-raises" (P := fun w => HandSHeadRun.RunEq (PySem.W.OpenLaw.row PySem.Challenge.rw_creelway_k49_texts_of_no_deed) (PySem.W.view (PySem.W.OpenLaw.row PySem.Challenge.rw_creelway_k49_texts_of_no_deed).prog [28]) (PySem.W.kHook CW.pre.heap_39 CW.asL CW.asE) (fun s => List.map (HandSHeadRun.getT s) CW.asL) 30000 CW.looseN w) CW.runF CW.runT
open PySem PySem.W PyProof.Rows
set_option maxRecDepth 100000 in
set_option maxHeartbeats 0 in
theorem PySem.Challenge.cw_creelway_k49_texts_of_no_deed_holds : PySem.Challenge.rw_creelway_k49_texts_of_no_deed.Holds := by
  w_on; o_law; refine HandSHeadRun.head_any (r := PySem.W.OpenLaw.row PySem.Challenge.rw_creelway_k49_texts_of_no_deed) (q := (PySem.W.view (PySem.W.OpenLaw.row PySem.Challenge.rw_creelway_k49_texts_of_no_deed).prog [28])) (H := PySem.W.kHook CW.pre.heap_39 CW.asL CW.asE) (ob := fun s => List.map (HandSHeadRun.getT s) CW.asL) (M := 30000) (loose := CW.looseN) (d := HandSHeadRun.topDef (PySem.W.OpenLaw.row PySem.Challenge.rw_creelway_k49_texts_of_no_deed).prog 28) (kwd := []) (fun s => List.map_congr_left fun b _ => HandSHeadRun.getT_eq s b) (by kernel_rfl) (fun s => by kernel_rfl) CW.run (by kernel_rfl) (by kernel_rfl) (by kernel_rfl) (by rfl) (by first | assumption | decide +kernel) (by decide +kernel) ⟨rfl, rfl, rfl, rfl, rfl, by decide +kernel⟩ ?hw ?hc; (case hw => w_witness2)
  k_fill
  refine VL.law_walk (l := PySem.Challenge.rw_creelway_k49_texts_of_no_deed) (x := "_law_script") rfl (by kernel_rfl) (fun w h Y => PySem.W.kIn_of Y) ?F
  case F =>
    intro w mg fa h KX G hmg0
    have hmg : mg ("law" : PySem.Str) = some (.ref fa) := by
      have e : (HandSHeadRun.topDef (PySem.W.OpenLaw.row PySem.Challenge.rw_creelway_k49_texts_of_no_deed).prog 28).name = ("law" : PySem.Str) := by kernel_rfl
      rw [← e]
      exact hmg0
    refine' CW.all_mk KX G hmg ?c_FIGURES ?c_LETTERS ?c_MOST_FIGURES ?c_MOST_SIGNS ?gt_FORMS ?kt_FORMS ?st_FORMS ?g_BadText ?k_BadText ?s_BadText ?t_BadText ?l_BadText ?r_BadText ?sa_BadText ?no_BadText ?jn_BadText ?ti_BadText ?li_BadText ?ci_BadText ?ki_BadText ?xf_BadText ?xg_BadText ?xh_BadText ?bb_BadText ?ii_BadText ?tt_BadText ?e_BadText_BadText ?g_CreelError ?bb_CreelError ?ii_CreelError ?tt_CreelError ?e_BadText_CreelError ?a_is_name ?a_number_in ?a_name_in ?a_parts_in ?a_read_deed ?a_numbers_L ?a_same_L ?a_ten_L ?a_text_L ?a_any_number_L ?a_word_L ?a_any_deed_L ?a_is_name_L ?a_number_L ?a_reads_L ?a_bent_text_L ?a_why_text_L ?a_law ?z_len ?z_range ?z_min ?z_max ?z_abs ?z_sum ?z_all ?z_any ?z_sorted ?z_list ?z_tuple ?z_int ?z_bool ?z_str ?z_isinstance ?z_zip ?z_enumerate ?z_reversed ?z_set ?z_dict
    (case c_FIGURES => k_is)
    (case c_LETTERS => k_is)
    (case c_MOST_FIGURES => k_is)
    (case c_MOST_SIGNS => k_is)
    (case gt_FORMS => k_is)
    (case kt_FORMS => first | kernel_rfl | k_is)
    (case st_FORMS => first | kernel_rfl | k_is)
    (case g_BadText => k_is)
    (case k_BadText => k_is)
    (case s_BadText => k_is)
    (case t_BadText => k_is)
    (case l_BadText => k_is)
    (case r_BadText => decide +kernel)
    (case sa_BadText => k_is)
    (case no_BadText => k_is)
    (case jn_BadText => k_is)
    (case ti_BadText => k_is)
    (case li_BadText => k_is)
    (case ci_BadText => k_is)
    (case ki_BadText => k_is)
    (case xf_BadText => k_is)
    (case xg_BadText => k_is)
    (case xh_BadText => k_is)
    (case bb_BadText => k_is)
    (case ii_BadText => k_is)
    (case tt_BadText => k_is)
    (case e_BadText_BadText => k_is)
    (case g_CreelError => k_is)
    (case bb_CreelError => k_is)
    (case ii_CreelError => k_is)
    (case tt_CreelError => k_is)
    (case e_BadText_CreelError => k_is)
    (case a_is_name => refine' VL.at_mk KX G ?b1 ?b2 ?b3 ?b4; (case b1 => k_is); (case b2 => k_is); (case b3 => k_is); (case b4 => k_is))
    (case a_number_in => refine' VL.at_mk KX G ?b1 ?b2 ?b3 ?b4; (case b1 => k_is); (case b2 => k_is); (case b3 => k_is); (case b4 => k_is))
    (case a_name_in => refine' VL.at_mk KX G ?b1 ?b2 ?b3 ?b4; (case b1 => k_is); (case b2 => k_is); (case b3 => k_is); (case b4 => k_is))
    (case a_parts_in => refine' VL.at_mk KX G ?b1 ?b2 ?b3 ?b4; (case b1 => k_is); (case b2 => k_is); (case b3 => k_is); (case b4 => k_is))
    (case a_read_deed => refine' VL.at_mk KX G ?b1 ?b2 ?b3 ?b4; (case b1 => k_is); (case b2 => k_is); (case b3 => k_is); (case b4 => k_is))
    (case a_numbers_L => refine' VL.at_mk KX G ?b1 ?b2 ?b3 ?b4; (case b1 => k_is); (case b2 => k_is); (case b3 => k_is); (case b4 => k_is))
    (case a_same_L => refine' VL.at_mk KX G ?b1 ?b2 ?b3 ?b4; (case b1 => k_is); (case b2 => k_is); (case b3 => k_is); (case b4 => k_is))
    (case a_ten_L => refine' VL.at_mk KX G ?b1 ?b2 ?b3 ?b4; (case b1 => k_is); (case b2 => k_is); (case b3 => k_is); (case b4 => k_is))
    (case a_text_L => refine' VL.at_mk KX G ?b1 ?b2 ?b3 ?b4; (case b1 => k_is); (case b2 => k_is); (case b3 => k_is); (case b4 => k_is))
    (case a_any_number_L => refine' VL.at_mk KX G ?b1 ?b2 ?b3 ?b4; (case b1 => k_is); (case b2 => k_is); (case b3 => k_is); (case b4 => k_is))
    (case a_word_L => refine' VL.at_mk KX G ?b1 ?b2 ?b3 ?b4; (case b1 => k_is); (case b2 => k_is); (case b3 => k_is); (case b4 => k_is))
    (case a_any_deed_L => refine' VL.at_mk KX G ?b1 ?b2 ?b3 ?b4; (case b1 => k_is); (case b2 => k_is); (case b3 => k_is); (case b4 => k_is))
    (case a_is_name_L => refine' VL.at_mk KX G ?b1 ?b2 ?b3 ?b4; (case b1 => k_is); (case b2 => k_is); (case b3 => k_is); (case b4 => k_is))
    (case a_number_L => refine' VL.at_mk KX G ?b1 ?b2 ?b3 ?b4; (case b1 => k_is); (case b2 => k_is); (case b3 => k_is); (case b4 => k_is))
    (case a_reads_L => refine' VL.at_mk KX G ?b1 ?b2 ?b3 ?b4; (case b1 => k_is); (case b2 => k_is); (case b3 => k_is); (case b4 => k_is))
    (case a_bent_text_L => refine' VL.at_mk KX G ?b1 ?b2 ?b3 ?b4; (case b1 => k_is); (case b2 => k_is); (case b3 => k_is); (case b4 => k_is))
    (case a_why_text_L => refine' VL.at_mk KX G ?b1 ?b2 ?b3 ?b4; (case b1 => k_is); (case b2 => k_is); (case b3 => k_is); (case b4 => k_is))
    (case a_law => refine' VL.at_mk KX G ?b1 ?b2 ?b3 ?b4; (case b1 => k_is); (case b2 => k_is); (case b3 => k_is); (case b4 => k_is))
    (case z_len => k_is)
    (case z_range => k_is)
    (case z_min => k_is)
    (case z_max => k_is)
    (case z_abs => k_is)
    (case z_sum => k_is)
    (case z_all => k_is)
    (case z_any => k_is)
    (case z_sorted => k_is)
    (case z_list => k_is)
    (case z_tuple => k_is)
    (case z_int => k_is)
    (case z_bool => k_is)
    (case z_str => k_is)
    (case z_isinstance => k_is)
    (case z_zip => k_is)
    (case z_enumerate => k_is)
    (case z_reversed => k_is)
    (case z_set => k_is)
    (case z_dict => k_is)
