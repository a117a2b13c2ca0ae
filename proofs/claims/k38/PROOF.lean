import PyProof.Rows.All
import HandS.Head0
import HandS.Head1
import HandS.Head2
import Wide.All
import OpenK.AllK
import Wide.FinOn
import HandS.Comp
import HandS.Exc
import HandS.WordsList
import HandS.Dict
import HandS.TryMany
import HandS.Lambda
import HandS.ExcField
import HandS.ExcCtx
import HandS.SuiteRaise
import HandS.RaiseFrom
import HandS.ExcInitHot
import HandS.Wide
import HandS.TupAny
import HandS.Text
import HandS.WordsDict
import HandS.Iter
import PyProof.LongRange
import HandS.Style
import HandS.ExcInit
import HandS.WordsExc
import HandS.IsInst
import HandS.SortInts
import HandS.SortRule
import HandS.Deep
import HandS.SortKw
import KE.KMinBuiltin
import KE.DataFind
import HandS.EndTab
import KE.KExcIs
import HandS.SetFor
import HandS.Strs
import HandS.Conv
import HandS.More
import HandS.Zip
import KE.SortData
import KE.DataCmp
import HandS.RaiseMore
import HandS.FStr
import PyProof.ListRange
import HandS.HeadHook3
import KE.GoesNew
import HandS.ListItems
import PyProof.StrBlock2
import KE.KDictZip
import KE.SortKeyHeap
import PySem.Challenge.RW_creelway_k38_great_niches_numbered
set_option Elab.async false
set_option linter.all false
set_option maxRecDepth 100000
set_option maxHeartbeats 4000000

namespace VL
open PySem PySem.Spec PyProof.Rows L2

def NT (o : HO) : Prop := ∀ ps, o ≠ .tbl ps
structure Same (H H' : Hp) : Prop where
  k : ∀ b o, H b = some o → NT o ∨ H' b = none → H' b = some o
theorem Same.at {H H' : Hp} (e : Same H H') (b : Addr) (o : HO) (h : H b = some o) (nt : NT o := by intro _ z; cases z) : H' b = some o := e.k b o h (.inl nt)
theorem Same.refl (H : Hp) : Same H H := ⟨fun _ _ h _ => h⟩
theorem Same.free {H H' : Hp} (e : Same H H') {l : Addr} (h : H' l = none) : H l = none := by
  cases q : H l with
  | none => rfl
  | some o =>
    have z := e.k l o q (.inr h)
    rw [h] at z
    cases z
/-- a dict that lies open, or locked -/
theorem Same.rd {H H' : Hp} (e : Same H H') {a : Addr} {xs : List (Key × V)} (h : Rd H a (.dK xs)) : Rd H' a (.dK xs) := by
  rcases h with h | ⟨o, h⟩
  · exact .inl (e.at _ _ h)
  · exact .inr ⟨o, e.at _ _ h⟩
theorem Same.trans {H H1 H2 : Hp} (a : Same H H1) (b : Same H1 H2) : Same H H2 := ⟨fun c o h nt => by
  rcases nt with nt | nt
  · exact b.k c o (a.k c o h (.inl nt)) (.inl nt)
  · have z := a.k c o h (.inr (b.free nt))
    rw [b.free nt] at z
    cases z⟩
theorem Same.of {H H' : Hp} (e : L2.Same H H') : Same H H' := ⟨fun b o h _ => e b o h⟩
theorem Same.seq {K : PySem.W.Frag} {H H' : Hp} {a : Addr} {xs : List V} (e : Same H H') (h : SqL K H a xs) : SqL K H' a xs := by
  rcases h with (h | ⟨o, h⟩) | h
  · exact .inl (.inl (e.at _ _ h))
  · exact .inl (.inr ⟨o, e.at _ _ h⟩)
  · exact .inr h
/-- the name of a law's lambda -/
def lamQ : Str := "law.<locals>.<lambda>"

inductive D where
  | non
  | bl (b : Bool)
  | int (i : Int)
  | str (x : Str)
  | lst (xs : List D)
  | tup (xs : List D)
  | dct (kvs : List (Key × D))
  | obj (C : Str) (fs : List (Str × D))
  | scr (ns : List Int)
/-- the own classes by name; the written part -/
structure Cl where
  f : Str → Option Addr
  K : PySem.W.Frag
  o : Str → Option Addr

mutual
inductive Rep (cl : Cl) (H : Hp) : D → V → Prop
  | non : Rep cl H .non .non
  | bl (b : Bool) : Rep cl H (.bl b) (.bl b)
  | int (i : Int) : Rep cl H (.int i) (.int i)
  | str (x : Str) : Rep cl H (.str x) (.str x)
  | lst {a : Addr} {ds : List D} {xs : List V} : H a = some (.lst xs) → RepL cl H ds xs → Rep cl H (.lst ds) (.ref a)
  | tup {a : Addr} {ds : List D} {xs : List V} : H a = some (.tup xs) → RepL cl H ds xs → Rep cl H (.tup ds) (.ref a)
  | dct {a : Addr} {ds : List (Key × D)} {xs : List (Key × V)} : Rd H a (.dK xs) → RepK cl H ds xs → Rep cl H (.dct ds) (.ref a)
  | obj {a c dx : Addr} {C : Str} {ds : List (Str × D)} {xs : List (Str × V)} : cl.o C = some c → H a = some (.ins c dx xs) → RepF cl H ds xs → Rep cl H (.obj C ds) (.ref a)
  | scr {a : Addr} {ns : List Int} : SqL cl.K H a (ns.map V.int) → Rep cl H (.scr ns) (.ref a)
inductive RepL (cl : Cl) (H : Hp) : List D → List V → Prop
  | nil : RepL cl H [] []
  | cons {d : D} {ds : List D} {v : V} {vs : List V} : Rep cl H d v → RepL cl H ds vs → RepL cl H (d :: ds) (v :: vs)
inductive RepK (cl : Cl) (H : Hp) : List (Key × D) → List (Key × V) → Prop
  | nil : RepK cl H [] []
  | cons {k : Key} {d : D} {ds : List (Key × D)} {v : V} {vs : List (Key × V)} : Rep cl H d v → RepK cl H ds vs → RepK cl H ((k, d) :: ds) ((k, v) :: vs)
inductive RepF (cl : Cl) (H : Hp) : List (Str × D) → List (Str × V) → Prop
  | nil : RepF cl H [] []
  | cons {k : Str} {d : D} {ds : List (Str × D)} {v : V} {vs : List (Str × V)} : Rep cl H d v → RepF cl H ds vs → RepF cl H ((k, d) :: ds) ((k, v) :: vs)
end

section
variable {cl : Cl} {H H' : Hp}
mutual
theorem Rep.same (e : Same H H') : ∀ (d : D) (v : V), Rep cl H d v → Rep cl H' d v
  | .non, _, h => by cases h; exact .non
  | .bl b, _, h => by cases h; exact .bl b
  | .int i, _, h => by cases h; exact .int i
  | .str x, _, h => by cases h; exact .str x
  | .lst ds, _, h => by
    cases h with
    | lst h1 h2 => exact .lst (e.at _ _ h1) (RepL.same e ds _ h2)
  | .tup ds, _, h => by
    cases h with
    | tup h1 h2 => exact .tup (e.at _ _ h1) (RepL.same e ds _ h2)
  | .dct ds, _, h => by
    cases h with
    | dct h1 h2 => exact .dct (e.rd h1) (RepK.same e ds _ h2)
  | .obj C ds, _, h => by
    cases h with
    | obj h0 h1 h2 => exact .obj h0 (e.at _ _ h1) (RepF.same e ds _ h2)
  | .scr ns, _, h => by
    cases h with
    | scr h1 => exact .scr (e.seq h1)
theorem RepL.same (e : Same H H') : ∀ (ds : List D) (vs : List V), RepL cl H ds vs → RepL cl H' ds vs
  | [], _, h => by cases h; exact .nil
  | d :: ds, _, h => by
    cases h with
    | cons h1 h2 => exact .cons (Rep.same e d _ h1) (RepL.same e ds _ h2)
theorem RepK.same (e : Same H H') : ∀ (ds : List (Key × D)) (vs : List (Key × V)), RepK cl H ds vs → RepK cl H' ds vs
  | [], _, h => by cases h; exact .nil
  | (k, d) :: ds, _, h => by
    cases h with
    | cons h1 h2 => exact .cons (Rep.same e d _ h1) (RepK.same e ds _ h2)
theorem RepF.same (e : Same H H') : ∀ (ds : List (Str × D)) (vs : List (Str × V)), RepF cl H ds vs → RepF cl H' ds vs
  | [], _, h => by cases h; exact .nil
  | (k, d) :: ds, _, h => by
    cases h with
    | cons h1 h2 => exact .cons (Rep.same e d _ h1) (RepF.same e ds _ h2)
end
theorem RepL.length : ∀ {ds : List D} {vs : List V}, RepL cl H ds vs → vs.length = ds.length
  | [], _, h => by cases h; rfl
  | d :: ds, _, h => by
    cases h with
    | cons h1 h2 => rw [List.length_cons, List.length_cons, RepL.length h2]
theorem RepL.get : ∀ {ds : List D} {vs : List V} {i : Nat} {d : D}, RepL cl H ds vs → ds[i]? = some d → ∃ v, vs[i]? = some v ∧ Rep cl H d v
  | [], _, _, _, _, e => by simp at e
  | d :: ds, _, 0, _, h, e => by
    cases h with
    | cons h1 h2 =>
      simp at e
      subst e
      exact ⟨_, rfl, h1⟩
  | d :: ds, _, i + 1, _, h, e => by
    cases h with
    | cons h1 h2 =>
      obtain ⟨v, q, r⟩ := RepL.get (i := i) h2 (by simpa using e)
      exact ⟨v, by simpa using q, r⟩
theorem RepL.app : ∀ {ds ds' : List D} {vs vs' : List V}, RepL cl H ds vs → RepL cl H ds' vs' → RepL cl H (ds ++ ds') (vs ++ vs')
  | [], _, _, _, h, h' => by cases h; exact h'
  | d :: ds, _, _, _, h, h' => by
    cases h with
    | cons h1 h2 => exact .cons h1 (RepL.app h2 h')
theorem RepL.take : ∀ {ds : List D} {vs : List V} (n : Nat), RepL cl H ds vs → RepL cl H (ds.take n) (vs.take n)
  | _, _, 0, _ => .nil
  | [], _, _ + 1, h => by cases h; exact .nil
  | d :: ds, _, n + 1, h => by
    cases h with
    | cons h1 h2 => exact .cons h1 (RepL.take n h2)
theorem RepL.drop : ∀ {ds : List D} {vs : List V} (n : Nat), RepL cl H ds vs → RepL cl H (ds.drop n) (vs.drop n)
  | _, _, 0, h => h
  | [], _, _ + 1, h => by cases h; exact .nil
  | d :: ds, _, n + 1, h => by
    cases h with
    | cons h1 h2 => exact RepL.drop n h2
theorem RepL.rev {ds : List D} {vs : List V} (h : RepL cl H ds vs) : RepL cl H ds.reverse vs.reverse := by
  have key : ∀ (ds : List D) (vs : List V) (es : List D) (us : List V), RepL cl H ds vs → RepL cl H es us → RepL cl H (ds.reverseAux es) (vs.reverseAux us) := by
    intro ds
    induction ds with
    | nil =>
      intro vs es us h1 h2
      cases h1
      exact h2
    | cons d ds ih =>
      intro vs es us h1 h2
      cases h1 with
      | cons a b =>
        have q := ih _ _ _ b (.cons a h2)
        exact q
  exact key ds vs [] [] h .nil
theorem RepL.set : ∀ {ds : List D} {vs : List V} {d : D} {v : V} (i : Nat), RepL cl H ds vs → Rep cl H d v → RepL cl H (ds.set i d) (vs.set i v)
  | [], _, _, _, _, h, _ => by cases h; exact .nil
  | d :: ds, _, _, _, 0, h, r => by
    cases h with
    | cons h1 h2 => exact .cons r h2
  | d :: ds, _, _, _, i + 1, h, r => by
    cases h with
    | cons h1 h2 => exact .cons h1 (RepL.set i h2 r)
theorem RepL.dropLast : ∀ {ds : List D} {vs : List V}, RepL cl H ds vs → RepL cl H ds.dropLast vs.dropLast := fun {ds vs} h => by
  rw [List.dropLast_eq_take, List.dropLast_eq_take, h.length]
  exact h.take _
theorem RepL.ints {ns : List Int} : ∀ {vs : List V}, RepL cl H (ns.map D.int) vs → vs = ns.map V.int := by
  induction ns with
  | nil =>
    intro vs h
    cases h
    rfl
  | cons n ns ih =>
    intro vs h
    cases h with
    | cons h1 h2 =>
      cases h1
      rw [ih h2]
      rfl
theorem RepL.ofInts (ns : List Int) : RepL cl H (ns.map D.int) (ns.map V.int) := by
  induction ns with
  | nil => exact .nil
  | cons n ns ih => exact .cons (.int n) ih
end

/-- numbers, texts, truths, None -/
def D.bare : D → Bool
  | .non => true
  | .bl _ => true
  | .int _ => true
  | .str _ => true
  | _ => false
/-- no list, dict, object: what never changes -/
def D.plain : D → Bool
  | .lst _ => false
  | .dct _ => false
  | .obj _ _ => false
  | _ => true
mutual
inductive RB (cl : Cl) (Hs H : Hp) : D → V → Prop
  | val {d : D} {v : V} : Rep cl Hs d v → RB cl Hs H d v
  | lst {a : Addr} {ds : List D} {xs : List V} : H a = some (.lst xs) → RepL cl Hs ds xs → RB cl Hs H (.lst ds) (.ref a)
  | dct {a : Addr} {ds : List (Key × D)} {xs : List (Key × V)} : Rd H a (.dK xs) → RepK cl Hs ds xs → RB cl Hs H (.dct ds) (.ref a)
  | obj {a c dx : Addr} {C : Str} {ds : List (Str × D)} {xs : List (Str × V)} : cl.o C = some c → H a = some (.ins c dx xs) → RBF cl Hs H ds xs → RB cl Hs H (.obj C ds) (.ref a)
inductive RBF (cl : Cl) (Hs H : Hp) : List (Str × D) → List (Str × V) → Prop
  | nil : RBF cl Hs H [] []
  | cons {k : Str} {d : D} {ds : List (Str × D)} {v : V} {vs : List (Str × V)} : RB cl Hs H d v → RBF cl Hs H ds vs → RBF cl Hs H ((k, d) :: ds) ((k, v) :: vs)
end
section
variable {cl : Cl} {Hs Hs' H H' : Hp}
mutual
theorem RB.same (e : Same Hs Hs') (h : Same H H') : ∀ {d : D} {v : V}, RB cl Hs H d v → RB cl Hs' H' d v
  | _, _, .val r => .val (Rep.same e _ _ r)
  | _, _, .lst h1 h2 => .lst (h.at _ _ h1) (RepL.same e _ _ h2)
  | _, _, .dct h1 h2 => .dct (h.rd h1) (RepK.same e _ _ h2)
  | _, _, .obj h0 h1 h2 => .obj h0 (h.at _ _ h1) (RBF.same e h h2)
theorem RBF.same (e : Same Hs Hs') (h : Same H H') : ∀ {ds : List (Str × D)} {vs : List (Str × V)}, RBF cl Hs H ds vs → RBF cl Hs' H' ds vs
  | _, _, .nil => .nil
  | _, _, .cons a b => .cons (RB.same e h a) (RBF.same e h b)
end
end
inductive Kd where
  | val
  | bor
  | own (n : Option Addr)
  | obj (n : Option Addr) (ks : List (Str × Kd))
  | adr (a : Addr)
  | lls (n : Option Addr) (k : Kd)

mutual
/-- d lies at v: cl the classes, N what is new, B what was borrowed at the entry, Hs what stays as it is, H all; As: what may be changed -/
inductive ORep (cl : Cl) (N : Addr → Prop) (B Hs H : Hp) : Kd → D → V → List Addr → Prop
  | val {d : D} {v : V} : Rep cl Hs d v → ORep cl N B Hs H .val d v []
  | borV {d : D} {v : V} : Rep cl Hs d v → ORep cl N B Hs H .bor d v []
  | borL {a : Addr} {ds : List D} {xs : List V} : B a = some (.lst xs) → RepL cl Hs ds xs → ORep cl N B Hs H .bor (.lst ds) (.ref a) []
  | borK {a : Addr} {ds : List (Key × D)} {xs : List (Key × V)} : Rd B a (.dK xs) → RepK cl Hs ds xs → ORep cl N B Hs H .bor (.dct ds) (.ref a) []
  | borO {a c dx : Addr} {C : Str} {ds : List (Str × D)} {xs : List (Str × V)} : cl.o C = some c → B a = some (.ins c dx xs) → RBF cl Hs B ds xs → ORep cl N B Hs H .bor (.obj C ds) (.ref a) []
  | ownL {n : Option Addr} {a : Addr} {ds : List D} {xs : List V} : (N a ∧ ∀ b, n = some b → b = a) → H a = some (.lst xs) → RepL cl Hs ds xs → ORep cl N B Hs H (.own n) (.lst ds) (.ref a) [a]
  | ownK {n : Option Addr} {a : Addr} {ds : List (Key × D)} {xs : List (Key × V)} : (N a ∧ ∀ b, n = some b → b = a) → H a = some (.dK xs) → RepK cl Hs ds xs → ORep cl N B Hs H (.own n) (.dct ds) (.ref a) [a]
  | ownV {d : D} {v : V} : d.plain = true → Rep cl Hs d v → ORep cl N B Hs H (.own none) d v []
  | obj {n : Option Addr} {ks : List (Str × Kd)} {a c dx : Addr} {C : Str} {ds : List (Str × D)} {xs : List (Str × V)} {As : List Addr} :
      (N a ∧ ∀ b, n = some b → b = a) → cl.o C = some c → H a = some (.ins c dx xs) → OFs cl N B Hs H ks ds xs As → ORep cl N B Hs H (.obj n ks) (.obj C ds) (.ref a) (a :: As)
  | adr {a : Addr} : ORep cl N B Hs H (.adr a) .non (.ref a) []
  | lls {n : Option Addr} {k : Kd} {a : Addr} {ds : List D} {xs : List V} {As : List Addr} : (N a ∧ ∀ b, n = some b → b = a) → H a = some (.lst xs) → OLs cl N B Hs H k ds xs As → ORep cl N B Hs H (.lls n k) (.lst ds) (.ref a) (a :: As)
  | llT {n : Option Addr} {k : Kd} {a : Addr} {ds : List D} {xs : List V} {As : List Addr} : (N a ∧ ∀ b, n = some b → b = a) → H a = some (.tup xs) → OLs cl N B Hs H k ds xs As → ORep cl N B Hs H (.lls n k) (.tup ds) (.ref a) (a :: As)
  | llV {k : Kd} {d : D} {v : V} : d.bare = true → Rep cl Hs d v → ORep cl N B Hs H (.lls none k) d v []
inductive OFs (cl : Cl) (N : Addr → Prop) (B Hs H : Hp) : List (Str × Kd) → List (Str × D) → List (Str × V) → List Addr → Prop
  | nil : OFs cl N B Hs H [] [] [] []
  | cons {f : Str} {k : Kd} {d : D} {v : V} {A As : List Addr} {ks : List (Str × Kd)} {ds : List (Str × D)} {xs : List (Str × V)} :
      ORep cl N B Hs H k d v A → OFs cl N B Hs H ks ds xs As → OFs cl N B Hs H ((f, k) :: ks) ((f, d) :: ds) ((f, v) :: xs) (A ++ As)
/-- a list's items, each of kind k -/
inductive OLs (cl : Cl) (N : Addr → Prop) (B Hs H : Hp) : Kd → List D → List V → List Addr → Prop
  | nil {k : Kd} : OLs cl N B Hs H k [] [] []
  | cons {k : Kd} {d : D} {v : V} {A As : List Addr} {ds : List D} {xs : List V} : ORep cl N B Hs H k d v A → OLs cl N B Hs H k ds xs As → OLs cl N B Hs H k (d :: ds) (v :: xs) (A ++ As)
end

section
variable {cl : Cl} {N N' : Addr → Prop} {B B' Hs Hs' H H' : Hp}
theorem OLs.imp {k : Kd} (T : List Addr → Prop) (t1 : ∀ A As, T (A ++ As) → T A) (t2 : ∀ A As, T (A ++ As) → T As) (f : ∀ d v A, T A → ORep cl N B Hs H k d v A → ORep cl N' B' Hs' H' k d v A) : ∀ {ds : List D} {xs : List V} {As : List Addr}, T As → OLs cl N B Hs H k ds xs As → OLs cl N' B' Hs' H' k ds xs As
  | [], _, _, _, h => by cases h; exact .nil
  | d :: ds, _, _, t, h => by
    cases h with
    | cons h1 h2 => exact .cons (f _ _ _ (t1 _ _ t) h1) (OLs.imp T t1 t2 f (t2 _ _ t) h2)
theorem OLs.all {k : Kd} {P : Addr → Prop} (f : ∀ d v A, ORep cl N B Hs H k d v A → ∀ a ∈ A, P a) : ∀ {ds : List D} {xs : List V} {As : List Addr}, OLs cl N B Hs H k ds xs As → ∀ a ∈ As, P a
  | [], _, _, h => by cases h; intro a z; cases z
  | d :: ds, _, _, h => by
    cases h with
    | cons h1 h2 =>
      intro a z
      rcases List.mem_append.mp z with z | z
      · exact f _ _ _ h1 a z
      · exact OLs.all f h2 a z
theorem OLs.length {k : Kd} : ∀ {ds : List D} {xs : List V} {As : List Addr}, OLs cl N B Hs H k ds xs As → xs.length = ds.length
  | [], _, _, h => by cases h; rfl
  | d :: ds, _, _, h => by
    cases h with
    | cons h1 h2 => rw [List.length_cons, List.length_cons, OLs.length h2]
mutual
theorem ORep.mono (e : Same Hs Hs') (b : Same B B') (nn : ∀ a, N a → N' a) : ∀ (k : Kd) (d : D) (v : V) (A : List Addr), (∀ a ∈ A, H' a = H a) → ORep cl N B Hs H k d v A → ORep cl N' B' Hs' H' k d v A
  | .val, d, v, _, _, h => by
    cases h with
    | val h1 => exact .val (Rep.same e _ _ h1)
  | .bor, d, v, _, _, h => by
    cases h with
    | borV h1 => exact .borV (Rep.same e _ _ h1)
    | borL h1 h2 => exact .borL (b.at _ _ h1) (RepL.same e _ _ h2)
    | borK h1 h2 => exact .borK (b.rd h1) (RepK.same e _ _ h2)
    | borO h0 h1 h2 => exact .borO h0 (b.at _ _ h1) (RBF.same e b h2)
  | .own n, d, v, _, k, h => by
    cases h with
    | ownL h0 h1 h2 => exact .ownL ⟨nn _ h0.1, h0.2⟩ ((k _ List.mem_cons_self).trans h1) (RepL.same e _ _ h2)
    | ownK h0 h1 h2 => exact .ownK ⟨nn _ h0.1, h0.2⟩ ((k _ List.mem_cons_self).trans h1) (RepK.same e _ _ h2)
    | ownV h0 h1 => exact .ownV h0 (Rep.same e _ _ h1)
  | .obj n ks, d, v, _, k, h => by
    cases h with
    | obj h0 h1 h2 h3 => exact .obj ⟨nn _ h0.1, h0.2⟩ h1 ((k _ List.mem_cons_self).trans h2) (OFs.mono e b nn ks _ _ _ (fun a ha => k a (List.mem_cons_of_mem _ ha)) h3)
  | .adr a, d, v, _, _, h => by
    cases h with
    | adr => exact .adr
  | .lls n kd, d, v, _, k, h => by
    cases h with
    | lls h0 h1 h2 => exact .lls ⟨nn _ h0.1, h0.2⟩ ((k _ List.mem_cons_self).trans h1) (OLs.imp (fun A => ∀ a ∈ A, H' a = H a) (fun _ _ t a ha => t a (List.mem_append_left _ ha)) (fun _ _ t a ha => t a (List.mem_append_right _ ha)) (fun d v A t o => ORep.mono e b nn kd d v A t o) (fun a ha => k a (List.mem_cons_of_mem _ ha)) h2)
    | llT h0 h1 h2 => exact .llT ⟨nn _ h0.1, h0.2⟩ ((k _ List.mem_cons_self).trans h1) (OLs.imp (fun A => ∀ a ∈ A, H' a = H a) (fun _ _ t a ha => t a (List.mem_append_left _ ha)) (fun _ _ t a ha => t a (List.mem_append_right _ ha)) (fun d v A t o => ORep.mono e b nn kd d v A t o) (fun a ha => k a (List.mem_cons_of_mem _ ha)) h2)
    | llV h0 h1 => exact .llV h0 (Rep.same e _ _ h1)
theorem OFs.mono (e : Same Hs Hs') (b : Same B B') (nn : ∀ a, N a → N' a) : ∀ (ks : List (Str × Kd)) (ds : List (Str × D)) (xs : List (Str × V)) (A : List Addr), (∀ a ∈ A, H' a = H a) → OFs cl N B Hs H ks ds xs A → OFs cl N' B' Hs' H' ks ds xs A
  | [], _, _, _, _, h => by cases h; exact .nil
  | (f, kd) :: ks, _, _, _, k, h => by
    cases h with
    | cons h1 h2 => exact .cons (ORep.mono e b nn kd _ _ _ (fun a ha => k a (List.mem_append_left _ ha)) h1) (OFs.mono e b nn ks _ _ _ (fun a ha => k a (List.mem_append_right _ ha)) h2)
end
end
end VL

namespace VL
open PySem PySem.Spec PyProof.Rows L2

/-- an exception: its class's name, its field -/
structure Exc where
  cls : Str
  at_ : Option D
inductive R (α : Type) where
  | stuck
  | exc (x : Exc)
  | ok (a : α)
@[reducible] def R.bind {α β : Type} (r : R α) (k : α → R β) : R β := match r with
  | .stuck => .stuck
  | .exc x => .exc x
  | .ok a => k a
instance : Monad R where
  pure := R.ok
  bind := R.bind
@[simp] theorem R.ok_bind {α β : Type} (a : α) (k : α → R β) : (R.ok a >>= k) = k a := rfl
@[simp] theorem R.stuck_bind {α β : Type} (k : α → R β) : ((R.stuck : R α) >>= k) = .stuck := rfl
@[simp] theorem R.exc_bind {α β : Type} (x : Exc) (k : α → R β) : ((R.exc x : R α) >>= k) = .exc x := rfl
@[simp] theorem R.pure_eq {α : Type} (a : α) : (pure a : R α) = .ok a := rfl
abbrev Sl := List (Option D)
/-- a statement's end -/
inductive O where
  | stuck
  | nx (r : Sl)
  | rt (d : D) (r : Sl)
  | exc (x : Exc) (r : Sl)

structure Grow (Hs H Hs' H' : Hp) : Prop where
  s : Same Hs Hs'
  h : Same H H'
  n : ∀ a, Hs' a ≠ none → Hs a ≠ none ∨ H a = none
  sub : Same Hs' H'
  t : ∀ P, LamX.TabS H P lamQ → LamX.TabS H' P lamQ
theorem Grow.refl {Hs H : Hp} (e : Same Hs H) : Grow Hs H Hs H := ⟨Same.refl _, Same.refl _, fun _ z => .inl z, e, fun _ z => z⟩
theorem tab_upd {H : Hp} {p : Addr} {o : HO} (hp : H p = none) (P : Addr) (z : LamX.TabS H P lamQ) : LamX.TabS (upd H p o) P lamQ := z.ext fun b u q => by
  rw [upd_ne (ne_of_none q hp)]
  exact q
theorem Grow.trans {Hs H H1s H1 H2s H2 : Hp} (a : Grow Hs H H1s H1) (b : Grow H1s H1 H2s H2) : Grow Hs H H2s H2 where
  s := a.s.trans b.s
  h := a.h.trans b.h
  n := fun c z => by
    rcases b.n c z with q | q
    · exact a.n c q
    · exact .inr (a.h.free q)
  sub := b.sub
  t := fun P z => b.t P (a.t P z)
theorem Same.updNew {H : Hp} {p : Addr} {o : HO} (hp : H p = none) : Same H (upd H p o) := ⟨fun b u q _ => by
  rw [upd_ne (ne_of_none q hp)]
  exact q⟩
theorem Same.updBoth {Hs H : Hp} (e : Same Hs H) {p : Addr} {o : HO} : Same (upd Hs p o) (upd H p o) := ⟨fun b u q nt => by
  by_cases h : b = p
  · rw [h, upd_same] at q
    rw [h, upd_same]
    exact q
  · rw [upd_ne h] at q nt
    rw [upd_ne h]
    exact e.k _ _ q nt⟩
theorem tab_mut {H : Hp} {D : Addr} {o o' : HO} (hD : H D = some o) (P : Addr) (z : LamX.TabS H P lamQ) (n1 : NT o := by intro _ z; cases z) (n2 : ∀ c q, o ≠ LamX.CodeO c q := by intro _ _ z; unfold LamX.CodeO at z; cases z) : LamX.TabS (upd H D o') P lamQ := by
  obtain ⟨ps, h1, h2, h3⟩ := z
  have e : ∀ b u, H b = some u → u ≠ o → upd H D o' b = some u := fun b u q n => by
    rw [upd_ne fun w => n (by rw [w, hD] at q; exact (Option.some.inj q).symm)]
    exact q
  refine ⟨ps, e _ _ h1 fun w => n1 ps w.symm, h2, fun pos cv hc => ?_⟩
  obtain ⟨c, e1, e2⟩ := h3 pos cv hc
  exact ⟨c, e1, e _ _ e2 fun w => n2 c lamQ w.symm⟩
/-- a new stable object -/
theorem Grow.new {Hs H : Hp} (e : Same Hs H) {p : Addr} {o : HO} (hp : H p = none) : Grow Hs H (upd Hs p o) (upd H p o) where
  s := Same.updNew (e.free hp)
  h := Same.updNew hp
  n := fun a z => by
    by_cases h : a = p
    · exact .inr (h ▸ hp)
    · rw [upd_ne h] at z
      exact .inl z
  sub := Same.updBoth e
  t := tab_upd hp
/-- a new object that may yet be changed -/
theorem Grow.fresh {Hs H : Hp} (e : Same Hs H) {p : Addr} {o : HO} (hp : H p = none) : Grow Hs H Hs (upd H p o) where
  s := Same.refl _
  h := Same.updNew hp
  n := fun a z => .inl z
  sub := e.trans (Same.updNew hp)
  t := tab_upd hp
theorem Grow.same {Hs H H' : Hp} (e : Same Hs H) (k : Same H H') (tt : ∀ P, LamX.TabS H P lamQ → LamX.TabS H' P lamQ) : Grow Hs H Hs H' where
  s := Same.refl _
  h := k
  n := fun _ z => .inl z
  sub := e.trans k
  t := tt

/-- the entry of a def: the classes, the heap, what stays as it is, what may be read -/
structure En where
  cl : Cl
  h : Hp
  s : Hp
  b : Hp
def En.N (E : En) (a : Addr) : Prop := E.h a = none
inductive Slots (E : En) (Hs H : Hp) : List Kd → Sl → L2.St → List Addr → Prop
  | nil : Slots E Hs H [] [] [] []
  | skip {k : Kd} {x : Option V} {ks : List Kd} {r : Sl} {t : L2.St} {As : List Addr} : Slots E Hs H ks r t As → Slots E Hs H (k :: ks) (none :: r) (x :: t) As
  | cons {k : Kd} {d : D} {v : V} {A : List Addr} {ks : List Kd} {r : Sl} {t : L2.St} {As : List Addr} : ORep E.cl E.N E.b Hs H k d v A → Slots E Hs H ks r t As → Slots E Hs H (k :: ks) (some d :: r) (some v :: t) (A ++ As)
structure StOk (E : En) (Hs H : Hp) (ks : List Kd) (r : Sl) (t : L2.St) (As : List Addr) : Prop where
  sl : Slots E Hs H ks r t As
  nd : As.Nodup
  dis : ∀ a ∈ As, Hs a = none ∧ E.b a = none
  es : Same E.s Hs
  sub : Same Hs H
  eb : Same E.b H
  new : ∀ a, Hs a ≠ none → E.s a ≠ none ∨ E.h a = none
  dom : ∀ a, H a = none → E.h a = none
  tb : ∀ P, LamX.TabS E.h P lamQ → LamX.TabS H P lamQ
def StRel (E : En) (Hs H : Hp) (ks : List Kd) (r : Sl) (t : L2.St) : Prop := ∃ As, StOk E Hs H ks r t As

section
variable {E : En} {Hs H Hs' H' : Hp} {ks : List Kd} {r : Sl} {t : L2.St} {As : List Addr}
theorem Slots.mono (e : Same Hs Hs') : ∀ {ks : List Kd} {r : Sl} {t : L2.St} {As : List Addr}, (∀ a ∈ As, H' a = H a) → Slots E Hs H ks r t As → Slots E Hs' H' ks r t As
  | _, _, _, _, _, .nil => .nil
  | _, _, _, _, k, .skip h => .skip (Slots.mono e k h)
  | _, _, _, _, k, .cons h1 h2 => .cons (ORep.mono e (Same.refl _) (fun _ z => z) _ _ _ _ (fun a ha => k a (List.mem_append_left _ ha)) h1) (Slots.mono e (fun a ha => k a (List.mem_append_right _ ha)) h2)
mutual
theorem ORep.here {cl : Cl} {N : Addr → Prop} {B Hs H : Hp} : ∀ (k : Kd) (d : D) (v : V) (A : List Addr), ORep cl N B Hs H k d v A → ∀ a ∈ A, ∃ o, H a = some o ∧ NT o
  | .val, _, _, _, h => by cases h; intro a z; cases z
  | .bor, _, _, _, h => by cases h <;> (intro a z; cases z)
  | .own n, _, _, _, h => by
    cases h with
    | ownL _ h1 _ => intro a z; simp at z; subst z; exact ⟨_, h1, by intro _ z; cases z⟩
    | ownK _ h1 _ => intro a z; simp at z; subst z; exact ⟨_, h1, by intro _ z; cases z⟩
    | ownV _ _ => intro a z; cases z
  | .obj n ks, _, _, _, h => by
    cases h with
    | obj _ _ h2 h3 =>
      intro a z
      rcases List.mem_cons.mp z with e | z
      · rw [e]; exact ⟨_, h2, by intro _ z; cases z⟩
      · exact OFs.here ks _ _ _ h3 a z
  | .adr _, _, _, _, h => by cases h; intro a z; cases z
  | .lls n k, _, _, _, h => by
    cases h with
    | lls _ h1 h2 =>
      intro a z
      rcases List.mem_cons.mp z with e | z
      · rw [e]; exact ⟨_, h1, by intro _ z; cases z⟩
      · exact OLs.all (fun d v A o => ORep.here k d v A o) h2 a z
    | llT _ h1 h2 =>
      intro a z
      rcases List.mem_cons.mp z with e | z
      · rw [e]; exact ⟨_, h1, by intro _ z; cases z⟩
      · exact OLs.all (fun d v A o => ORep.here k d v A o) h2 a z
    | llV _ _ => intro a z; cases z
theorem OFs.here {cl : Cl} {N : Addr → Prop} {B Hs H : Hp} : ∀ (ks : List (Str × Kd)) (ds : List (Str × D)) (xs : List (Str × V)) (A : List Addr), OFs cl N B Hs H ks ds xs A → ∀ a ∈ A, ∃ o, H a = some o ∧ NT o
  | [], _, _, _, h => by cases h; intro a z; cases z
  | (f, k) :: ks, _, _, _, h => by
    cases h with
    | cons h1 h2 =>
      intro a z
      rcases List.mem_append.mp z with z | z
      · exact ORep.here k _ _ _ h1 a z
      · exact OFs.here ks _ _ _ h2 a z
end
theorem Slots.here : ∀ {ks : List Kd} {r : Sl} {t : L2.St} {As : List Addr}, Slots E Hs H ks r t As → ∀ a ∈ As, ∃ o, H a = some o ∧ NT o
  | _, _, _, _, .nil, a, z => by cases z
  | _, _, _, _, .skip h, a, z => Slots.here h a z
  | _, _, _, _, .cons h1 h2, a, z => by
    rcases List.mem_append.mp z with z | z
    · exact ORep.here _ _ _ _ h1 a z
    · exact Slots.here h2 a z
theorem Slots.len : ∀ {ks : List Kd} {r : Sl} {t : L2.St} {As : List Addr}, Slots E Hs H ks r t As → r.length = ks.length ∧ t.length = ks.length
  | _, _, _, _, .nil => ⟨rfl, rfl⟩
  | _, _, _, _, .skip h => by simp [Slots.len h]
  | _, _, _, _, .cons _ h => by simp [Slots.len h]
theorem StOk.grow (S : StOk E Hs H ks r t As) (g : Grow Hs H Hs' H') : StOk E Hs' H' ks r t As := by
  have hh := S.sl.here
  refine ⟨S.sl.mono g.s fun a ha => ?_, S.nd, fun a ha => ⟨?_, (S.dis a ha).2⟩, S.es.trans g.s, g.sub, S.eb.trans g.h, fun a z => ?_, fun a z => S.dom a (g.h.free z), fun P z => g.t P (S.tb P z)⟩
  · obtain ⟨o, e, nt⟩ := hh a ha
    rw [e]
    exact g.h.at _ _ e nt
  · cases q : Hs' a with
    | none => rfl
    | some u =>
      rcases g.n a (by rw [q]; simp) with z | z
      · exact absurd (S.dis a ha).1 z
      · obtain ⟨o, e, _⟩ := hh a ha
        rw [e] at z
        cases z
  · rcases g.n a z with q | q
    · exact S.new a q
    · exact .inr (S.dom a q)
theorem StRel.grow (S : StRel E Hs H ks r t) (g : Grow Hs H Hs' H') : StRel E Hs' H' ks r t := let ⟨As, q⟩ := S; ⟨As, q.grow g⟩
theorem StRel.sub (S : StRel E Hs H ks r t) : Same Hs H := let ⟨_, q⟩ := S; q.sub
/-- the place i of the state -/
theorem Slots.at_ : ∀ {ks : List Kd} {r : Sl} {t : L2.St} {As : List Addr} (i : Nat) {k : Kd}, Slots E Hs H ks r t As → ks[i]? = some k →
    ∃ (pre A post : List Addr), As = pre ++ (A ++ post) ∧ (∀ d, r[i]? = some (some d) → ∃ v, t[i]? = some (some v) ∧ ORep E.cl E.N E.b Hs H k d v A) ∧
      (∀ k' d v A', ORep E.cl E.N E.b Hs H k' d v A' → Slots E Hs H (ks.set i k') (r.set i (some d)) (t.set i (some v)) (pre ++ (A' ++ post))) ∧
      (∀ k' x, Slots E Hs H (ks.set i k') (r.set i none) (t.set i x) (pre ++ post)) ∧
      (∀ Hs' H', Same Hs Hs' → (∀ a ∈ pre ++ post, H' a = H a) → ∀ k' d v A', ORep E.cl E.N E.b Hs' H' k' d v A' → Slots E Hs' H' (ks.set i k') (r.set i (some d)) (t.set i (some v)) (pre ++ (A' ++ post)))
  | _, _, _, _, i, k, .nil, e => by simp at e
  | _, _, _, _, 0, k, .skip (k := k0) (r := r) (t := t) (As := As) h, e => by
    refine ⟨[], [], As, rfl, fun d z => ?_, fun k' d v A' o => .cons (A := A') (As := As) o h, fun k' x => .skip h, fun Hs' H' s q k' d v A' o => .cons (A := A') (As := As) o (h.mono s q)⟩
    have z' : (some none : Option (Option D)) = some (some d) := z
    cases z'
  | _, _, _, _, 0, k, .cons (k := k0) (d := d0) (v := v0) (A := A0) (As := As) o h, e => by
    have e' : k0 = k := by simpa using e
    subst e'
    refine ⟨[], A0, As, rfl, fun d z => ?_, fun k' d v A' o' => .cons (A := A') (As := As) o' h, fun k' x => .skip h, fun Hs' H' s q k' d v A' o => .cons (A := A') (As := As) o (h.mono s q)⟩
    have z' : (some (some d0) : Option (Option D)) = some (some d) := z
    cases z'
    exact ⟨v0, rfl, o⟩
  | _, _, _, _, i + 1, k, .skip h, e => by
    obtain ⟨pre, A, post, e1, e2, e3, e4, e5⟩ := Slots.at_ i h (by simpa using e)
    exact ⟨pre, A, post, e1, fun d z => e2 d (by simpa using z), fun k' d v A' o => .skip (e3 k' d v A' o), fun k' x => .skip (e4 k' x), fun Hs' H' s q k' d v A' o => .skip (e5 Hs' H' s q k' d v A' o)⟩
  | _, _, _, _, i + 1, k, .cons (A := A0) o h, e => by
    obtain ⟨pre, A, post, e1, e2, e3, e4, e5⟩ := Slots.at_ i h (by simpa using e)
    refine ⟨A0 ++ pre, A, post, by rw [e1, List.append_assoc], fun d z => e2 d (by simpa using z), fun k' d v A' o' => ?_, fun k' x => ?_, fun Hs' H' s q k' d v A' o' => ?_⟩
    · rw [List.append_assoc]
      exact .cons o (e3 k' d v A' o')
    · rw [List.append_assoc]
      exact .cons o (e4 k' x)
    · rw [List.append_assoc]
      exact .cons (ORep.mono s (Same.refl _) (fun _ z => z) _ _ _ _ (fun a ha => q a (List.mem_append_left _ (List.mem_append_left _ ha))) o)
        (e5 Hs' H' s (fun a ha => q a (by
          rcases List.mem_append.mp ha with z | z
          · exact List.mem_append_left _ (List.mem_append_right _ z)
          · exact List.mem_append_right _ z)) k' d v A' o')
end
end VL

namespace VL
open PySem PySem.Spec PyProof.Rows L2

class Md where
  n : Bool
@[reducible] def mZ : Md := ⟨false⟩
namespace ModeZ
scoped instance mZi : Md := mZ
end ModeZ
variable {md : Md}
def Takes [md : Md] (X : Cx) (W : WX) : Prop := match md.n with
  | true => L2N.Takes X W
  | false => L2.Takes X W
def CXM [md : Md] (P : Program) (w : World) : CXT := match md.n with
  | true => L2N.CX P w
  | false => L2.CX P w
theorem passAt {X : Cx} {W : WX} (tk : Takes X W) (σ : L2.St) : PassesAt (CXM X.prog X.w) X σ (WE W σ) := by
  cases md with
  | mk n => cases n with
    | false => exact L2.passAt tk σ
    | true => exact L2N.passAt tk σ
theorem takes_of {X : Cx} {E : XK} (hs : X.stack = X.env :: X.outer) (hf : X.env.frame = some X.env.locals) (hex : X.ex = []) {E₁ : Value → Shared → Prop}
    (hx : X.xe = fun e s' => wpAny (model X.prog X.w) X.A (leaving X.env e) (fun _ s'' => CXM X.prog X.w X.outer X.H_0 X.s_0 E e s'') E₁ s') : Takes X (fun cls d _ H => E cls d H) := by
  cases md with
  | mk n => cases n with
    | false => exact L2.takes_of hs hf hex hx
    | true => exact L2N.takes_of hs hf hex hx
theorem takesF {X : Cx} : Takes X (fun _ _ _ _ => False) := by
  obtain ⟨n⟩ := md
  cases n
  · intro _ _ x
    obtain ⟨_, _, _, _, _, _, _, _, _, _, _, _, _, _, _, _, z⟩ := x
    exact z.elim
  · intro _ _ x
    obtain ⟨_, _, _, _, _, _, _, _, _, _, _, _, _, _, _, _, z⟩ := x
    exact z.elim
def WEx (X : Cx) (e : Expr) : TE := fun σ H Q => ∀ (pins : List (Addr × Obj)) (s : Shared), Inv X pins σ H s → wpAny (model X.prog X.w) X.A (eval e X.env) (EP X pins σ Q) X.xe s
theorem pe_we {X : Cx} {e : Expr} : PE X e (WEx X e) := ⟨fun pins s _ _ _ I h => h pins s I⟩
theorem we_of {X : Cx} {e : Expr} {t : TE} {σ : L2.St} {H : Hp} {Q : VK} (p : PE X e t) (h : t σ H Q) : WEx X e σ H Q := fun pins s I => p.run pins s σ H Q I h
def WTx (X : Cx) (e : Expr) : TT := fun σ H Q => ∀ (pins : List (Addr × Obj)) (s : Shared), Inv X pins σ H s → wpAny (model X.prog X.w) X.A (isTrue e X.env (eval e X.env)) (TP X pins σ Q) X.xe s
theorem pt_wt {X : Cx} {e : Expr} : PT X e (WTx X e) := ⟨fun pins s _ _ _ I h => h pins s I⟩
theorem wt_of {X : Cx} {e : Expr} {t : TT} {σ : L2.St} {H : Hp} {Q : Bool → Hp → Prop} (p : PT X e t) (h : t σ H Q) : WTx X e σ H Q := fun pins s I => p.run pins s σ H Q I h
def WAx (X : Cx) (es : List Expr) : TA := fun σ H Q => ∀ (pos : Pos) (pins : List (Addr × Obj)) (s : Shared), Inv X pins σ H s → wpAny (model X.prog X.w) X.A (spliced (backTo pos (starEach es X.env))) (AP X pins σ Q) X.xe s
theorem pa_wa {X : Cx} {es : List Expr} : PA X es (WAx X es) := ⟨fun pos pins s _ _ _ I h => h pos pins s I⟩
theorem wa_of {X : Cx} {es : List Expr} {t : TA} {σ : L2.St} {H : Hp} {Q : List V → Hp → Prop} (p : PA X es t) (h : t σ H Q) : WAx X es σ H Q := fun pos pins s I => p.run pos pins s σ H Q I h
def WSx (X : Cx) (st : Stmt) : TS := fun Dn σ H => ∀ (pins : List (Addr × Obj)) (s : Shared), Inv X pins σ H s → wpAny (model X.prog X.w) X.A (exec st X.env) (SP X pins Dn) X.xe s
theorem ps_ws {X : Cx} {st : Stmt} : PS X st (WSx X st) := ⟨fun pins s _ _ _ I h => h pins s I⟩
theorem ws_of {X : Cx} {st : Stmt} {t : TS} {σ : L2.St} {H : Hp} {Dn : Ends} (p : PS X st t) (h : t Dn σ H) : WSx X st Dn σ H := fun pins s I => p.run pins s σ H Dn I h
def WSs (X : Cx) (st : List Stmt) : TS := fun Dn σ H => ∀ (pins : List (Addr × Obj)) (s : Shared), Inv X pins σ H s → wpAny (model X.prog X.w) X.A (execs st X.env) (SP X pins Dn) X.xe s
theorem pss_ws {X : Cx} {st : List Stmt} : PSs X st (WSs X st) := ⟨fun pins s _ _ _ I h => h pins s I⟩
theorem wss_of {X : Cx} {st : List Stmt} {t : TS} {σ : L2.St} {H : Hp} {Dn : Ends} (p : PSs X st t) (h : t Dn σ H) : WSs X st Dn σ H := fun pins s I => p.run pins s σ H Dn I h

/-- d lies at v behind a step from the heap H0 -/
def RK (cl : Cl) (k : Kd) (H0 Hs H : Hp) (d : D) (v : V) : Prop :=
  ∃ A, ORep cl (fun a => H0 a = none) H Hs H k d v A ∧ A.Nodup ∧ ∀ a ∈ A, Hs a = none ∧ H0 a = none
def XRep (cl : Cl) (Hs H : Hp) (x : Exc) (c : Value) (dd : Option Addr) : Prop :=
  ∃ a, cl.f x.cls = some a ∧ c = .ref a ∧ match x.at_ with
    | none => dd = none
    | some d => ∃ p v, dd = some p ∧ Hs p = some (.xd [("at", v)]) ∧ Rep cl Hs d v
abbrev WX0 := Value → Option Addr → Hp → Prop
def Post (cl : Cl) (k : Kd) (Hs H : Hp) (Q : VK) (W : WX0) : R D → Prop
  | .stuck => False
  | .exc x => ∀ c dd Hs' H', Grow Hs H Hs' H' → XRep cl Hs' H' x c dd → W c dd H'
  | .ok d => ∀ v Hs' H', Grow Hs H Hs' H' → RK cl k H Hs' H' d v → Q v H'
section
variable {cl : Cl} {k k1 k2 : Kd} {Hs H Hs' H' : Hp} {Q Q1 : VK} {W : WX0}
theorem Post.grow {r : R D} (P : Post cl k Hs H Q W r) (g : Grow Hs H Hs' H') : Post cl k Hs' H' Q W r := by
  cases r with
  | stuck => exact P
  | exc x => exact fun c dd Hs2 H2 g2 x2 => P c dd Hs2 H2 (g.trans g2) x2
  | ok d =>
    intro v Hs2 H2 g2 ⟨A, o, nd, z⟩
    exact P v Hs2 H2 (g.trans g2) ⟨A, ORep.mono (Same.refl _) (Same.refl _) (fun a q => g.h.free q) _ _ _ _ (fun _ _ => rfl) o, nd, fun a ha => ⟨(z a ha).1, g.h.free (z a ha).2⟩⟩
theorem Post.imp {r : R D} {F : D → R D} (P : Post cl k2 Hs H Q W (r >>= F))
    (h : ∀ d v Hs' H', r = .ok d → Grow Hs H Hs' H' → RK cl k1 H Hs' H' d v → Post cl k2 Hs' H' Q W (F d) → Q1 v H') : Post cl k1 Hs H Q1 W r := by
  cases r with
  | stuck => exact P
  | exc x => exact P
  | ok d => exact fun v Hs' H' g rk => h d v Hs' H' rfl g rk (Post.grow (r := F d) P g)
/-- what was owned may be frozen -/
def Kd.fine : Kd → Bool
  | .bor => false
  | .adr _ => false
  | .obj _ ks => fines ks
  | .lls _ k => Kd.fine k
  | _ => true
where
  fines : List (Str × Kd) → Bool
    | [] => true
    | (_, k) :: r => Kd.fine k && fines r
theorem OLs.reps {N : Addr → Prop} {B Hs H T : Hp} {k : Kd} (Q : List Addr → Prop) (t1 : ∀ A As, Q (A ++ As) → Q A) (t2 : ∀ A As, Q (A ++ As) → Q As) (f : ∀ d v A, Q A → ORep cl N B Hs H k d v A → Rep cl T d v) : ∀ {ds : List D} {xs : List V} {As : List Addr}, Q As → OLs cl N B Hs H k ds xs As → RepL cl T ds xs
  | [], _, _, _, h => by cases h; exact .nil
  | d :: ds, _, _, t, h => by
    cases h with
    | cons h1 h2 => exact .cons (f _ _ _ (t1 _ _ t) h1) (OLs.reps Q t1 t2 f (t2 _ _ t) h2)
mutual
theorem ORep.freeze {N : Addr → Prop} {B T : Hp} (e : Same Hs T) : ∀ (k : Kd) (d : D) (v : V) (A : List Addr), k.fine = true → (∀ a ∈ A, T a = H a) → ORep cl N B Hs H k d v A → Rep cl T d v
  | .val, _, _, _, _, _, h => by
    cases h with
    | val h1 => exact Rep.same e _ _ h1
  | .bor, _, _, _, z, _, _ => by cases z
  | .own n, _, _, _, _, t, h => by
    cases h with
    | ownL _ h1 h2 => exact .lst ((t _ List.mem_cons_self).trans h1) (RepL.same e _ _ h2)
    | ownK _ h1 h2 => exact .dct (.inl ((t _ List.mem_cons_self).trans h1)) (RepK.same e _ _ h2)
    | ownV _ h1 => exact Rep.same e _ _ h1
  | .obj n ks, _, _, _, z, t, h => by
    cases h with
    | obj _ h1 h2 h3 => exact .obj h1 ((t _ List.mem_cons_self).trans h2) (OFs.freeze e ks _ _ _ (by simpa [Kd.fine] using z) (fun a ha => t a (List.mem_cons_of_mem _ ha)) h3)
  | .adr _, _, _, _, z, _, _ => by cases z
  | .lls n k, _, _, _, z, t, h => by
    cases h with
    | lls _ h1 h2 => exact .lst ((t _ List.mem_cons_self).trans h1) (OLs.reps (fun A => ∀ a ∈ A, T a = H a) (fun _ _ t a ha => t a (List.mem_append_left _ ha)) (fun _ _ t a ha => t a (List.mem_append_right _ ha)) (fun d v A t o => ORep.freeze e k d v A z t o) (fun a ha => t a (List.mem_cons_of_mem _ ha)) h2)
    | llT _ h1 h2 => exact .tup ((t _ List.mem_cons_self).trans h1) (OLs.reps (fun A => ∀ a ∈ A, T a = H a) (fun _ _ t a ha => t a (List.mem_append_left _ ha)) (fun _ _ t a ha => t a (List.mem_append_right _ ha)) (fun d v A t o => ORep.freeze e k d v A z t o) (fun a ha => t a (List.mem_cons_of_mem _ ha)) h2)
    | llV _ h1 => exact Rep.same e _ _ h1
theorem OFs.freeze {N : Addr → Prop} {B T : Hp} (e : Same Hs T) : ∀ (ks : List (Str × Kd)) (ds : List (Str × D)) (xs : List (Str × V)) (A : List Addr), Kd.fine.fines ks = true → (∀ a ∈ A, T a = H a) → OFs cl N B Hs H ks ds xs A → RepF cl T ds xs
  | [], _, _, _, _, _, h => by cases h; exact .nil
  | (f, k) :: ks, _, _, _, z, t, h => by
    have z' : k.fine = true ∧ Kd.fine.fines ks = true := by simpa [Kd.fine.fines] using z
    cases h with
    | cons h1 h2 => exact .cons (ORep.freeze e k _ _ _ z'.1 (fun a ha => t a (List.mem_append_left _ ha)) h1) (OFs.freeze e ks _ _ _ z'.2 (fun a ha => t a (List.mem_append_right _ ha)) h2)
end
/-- the stable heap with A -/
def plus (Hs H : Hp) (A : List Addr) : Hp := fun a => if a ∈ A then H a else Hs a
theorem plus_same {A : List Addr} (z : ∀ a ∈ A, Hs a = none) : Same Hs (plus Hs H A) := ⟨fun b o q _ => by
  unfold plus
  rw [if_neg fun h => by rw [z b h] at q; cases q]
  exact q⟩
theorem plus_sub {A : List Addr} (e : Same Hs H) : Same (plus Hs H A) H := ⟨fun b o q nt => by
  unfold plus at q
  split at q
  · exact q
  · exact e.k _ _ q nt⟩
theorem RK.freeze {H0 : Hp} {d : D} {v : V} (g : Grow Hs H Hs' H') (f : k.fine = true) (h : RK cl k H Hs' H' d v) : ∃ Hs2, Grow Hs H Hs2 H' ∧ RK cl .val H Hs2 H' d v := by
  obtain ⟨A, o, nd, z⟩ := h
  have e := plus_same (H := H') fun a ha => (z a ha).1
  refine ⟨plus Hs' H' A, ⟨g.s.trans e, g.h, fun a q => ?_, plus_sub g.sub, g.t⟩, [], .val (ORep.freeze e k _ _ A f (fun a ha => by unfold plus; rw [if_pos ha]) o), List.nodup_nil, fun a ha => nomatch ha⟩
  unfold plus at q
  split at q
  · rename_i ha
    exact .inr (z a ha).2
  · exact g.n a q
theorem RK.val {H0 : Hp} {d : D} {v : V} (h : Rep cl Hs d v) : RK cl .val H0 Hs H d v := ⟨[], .val h, List.nodup_nil, fun a ha => nomatch ha⟩
theorem RK.bor {H0 : Hp} {d : D} {v : V} (h : Rep cl Hs d v) : RK cl .bor H0 Hs H d v := ⟨[], .borV h, List.nodup_nil, fun a ha => nomatch ha⟩
theorem RK.rep {H0 : Hp} {d : D} {v : V} (h : RK cl .val H0 Hs H d v) : Rep cl Hs d v := by
  obtain ⟨A, o, _⟩ := h
  cases o with
  | val r => exact r
theorem RK.rb {H0 : Hp} {d : D} {v : V} (h : RK cl .bor H0 Hs H d v) : RB cl Hs H d v := by
  obtain ⟨A, o, _⟩ := h
  cases o with
  | borV r => exact .val r
  | borL h1 h2 => exact .lst h1 h2
  | borK h1 h2 => exact .dct h1 h2
  | borO h0 h1 h2 => exact .obj h0 h1 h2
theorem RB.grow {d : D} {v : V} (h : RB cl Hs H d v) (g : Grow Hs H Hs' H') : RB cl Hs' H' d v := by
  cases h with
  | val r => exact .val (Rep.same g.s _ _ r)
  | lst h1 h2 => exact .lst (g.h.at _ _ h1) (RepL.same g.s _ _ h2)
  | dct h1 h2 => exact .dct (g.h.rd h1) (RepK.same g.s _ _ h2)
  | obj h0 h1 h2 => exact .obj h0 (g.h.at _ _ h1) (RBF.same g.s g.h h2)
theorem RB.rk {H0 : Hp} {d : D} {v : V} (h : RB cl Hs H d v) : RK cl .bor H0 Hs H d v := by
  refine ⟨[], ?_, List.nodup_nil, fun a ha => nomatch ha⟩
  cases h with
  | val r => exact .borV r
  | lst h1 h2 => exact .borL h1 h2
  | dct h1 h2 => exact .borK h1 h2
  | obj h0 h1 h2 => exact .borO h0 h1 h2
/-- a borrowed list -/
theorem RB.lstInv {ds : List D} {v : V} (h : RB cl Hs H (.lst ds) v) (e : Same Hs H) : ∃ a xs, v = .ref a ∧ H a = some (.lst xs) ∧ RepL cl Hs ds xs := by
  cases h with
  | val r =>
    cases r with
    | lst h1 h2 => exact ⟨_, _, rfl, e.at _ _ h1, h2⟩
  | lst h1 h2 => exact ⟨_, _, rfl, h1, h2⟩
theorem RB.tupInv {ds : List D} {v : V} (h : RB cl Hs H (.tup ds) v) (e : Same Hs H) : ∃ a xs, v = .ref a ∧ H a = some (.tup xs) ∧ RepL cl Hs ds xs := by
  cases h with
  | val r =>
    cases r with
    | tup h1 h2 => exact ⟨_, _, rfl, e.at _ _ h1, h2⟩
theorem RB.dctInv {ds : List (Key × D)} {v : V} (h : RB cl Hs H (.dct ds) v) (e : Same Hs H) : ∃ a xs, v = .ref a ∧ Rd H a (.dK xs) ∧ RepK cl Hs ds xs := by
  cases h with
  | val r =>
    cases r with
    | dct h1 h2 => exact ⟨_, _, rfl, e.rd h1, h2⟩
  | dct h1 h2 => exact ⟨_, _, rfl, h1, h2⟩
theorem RB.intInv {i : Int} {v : V} (h : RB cl Hs H (.int i) v) : v = .int i := by
  cases h with
  | val r => cases r; rfl
theorem RB.blInv {i : Bool} {v : V} (h : RB cl Hs H (.bl i) v) : v = .bl i := by
  cases h with
  | val r => cases r; rfl
theorem RB.strInv {i : Str} {v : V} (h : RB cl Hs H (.str i) v) : v = .str i := by
  cases h with
  | val r => cases r; rfl
theorem RB.nonInv {v : V} (h : RB cl Hs H .non v) : v = .non := by
  cases h with
  | val r => cases r; rfl
/-- a new list, not yet stable -/
theorem RK.ownNew {ds : List D} {xs : List V} {p : Addr} (e : Same Hs H) (hp : H p = none) (r : RepL cl Hs ds xs) : RK cl (.own none) H Hs (upd H p (.lst xs)) (.lst ds) (.ref p) :=
  ⟨[p], .ownL ⟨hp, fun _ z => nomatch z⟩ upd_same r, by simp, fun a ha => by
    have q : a = p := by simpa using ha
    subst q
    exact ⟨e.free hp, hp⟩⟩
theorem RK.ownPlain {H0 : Hp} {d : D} {v : V} (p : d.plain = true) (r : Rep cl Hs d v) : RK cl (.own none) H0 Hs H d v := ⟨[], .ownV p r, List.nodup_nil, fun a ha => nomatch ha⟩
/-- the end of a value that is plain -/
theorem Post.fin {d : D} {v : V} (P : Post cl (.own none) Hs H Q W (.ok d)) (e : Same Hs H) (p : d.plain = true) (r : Rep cl Hs d v) : Q v H := P v Hs H (Grow.refl e) (RK.ownPlain p r)
theorem Post.finV {d : D} {v : V} (P : Post cl .val Hs H Q W (.ok d)) (e : Same Hs H) (r : Rep cl Hs d v) : Q v H := P v Hs H (Grow.refl e) (RK.val r)
theorem Post.finL {ds : List D} {xs : List V} {p : Addr} (P : Post cl (.own none) Hs H Q W (.ok (.lst ds))) (e : Same Hs H) (hp : H p = none) (r : RepL cl Hs ds xs) : Q (.ref p) (upd H p (.lst xs)) :=
  P _ Hs _ (Grow.fresh e hp) (RK.ownNew e hp r)
end

structure SE [md : Md] (X : Cx) (E : En) (ks : List Kd) (k : Kd) (e : Expr) (g : Sl → R D) : Prop where
  run : ∀ (Hs H : Hp) (r : Sl) (σ : L2.St) (W : WX) (Q : VK), Takes X W → StRel E Hs H ks r σ → Post E.cl k Hs H Q (fun c dd H' => W c dd σ H') (g r) → WEx X e σ H Q
section
variable {X : Cx} {E : En} {ks : List Kd} {e : Expr} {g : Sl → R D}
theorem SE.toVal {k : Kd} (h : SE X E ks k e g) (f : k.fine = true := by rfl) : SE X E ks .val e g := by
  refine ⟨fun Hs H r σ W Q tk S P => ?_⟩
  refine h.run Hs H r σ W Q tk S ?_
  cases q : g r with
  | stuck => rw [q] at P; exact P
  | exc x => rw [q] at P; exact P
  | ok d =>
    rw [q] at P
    intro v Hs' H' gr rk
    obtain ⟨Hs2, g2, rk2⟩ := rk.freeze (H0 := H) gr f
    exact P v Hs2 H' g2 rk2
theorem SE.valBor (h : SE X E ks .val e g) : SE X E ks .bor e g := by
  refine ⟨fun Hs H r σ W Q tk S P => ?_⟩
  refine h.run Hs H r σ W Q tk S ?_
  cases q : g r with
  | stuck => rw [q] at P; exact P
  | exc x => rw [q] at P; exact P
  | ok d =>
    rw [q] at P
    intro v Hs' H' gr rk
    exact P v Hs' H' gr (RK.bor rk.rep)
theorem SE.toBor {k : Kd} (h : SE X E ks k e g) (f : k.fine = true := by rfl) : SE X E ks .bor e g := (h.toVal f).valBor
end
end VL

noncomputable section
namespace VL
open PySem PySem.Spec PyProof.Rows L2
variable {md : Md}

def NmOk (x : Str) : Prop := (x == ("__debug__" : Str)) = false ∧ (x == ("__classdict__" : Str)) = false
@[simp] def gVar (i : Nat) : Sl → R D := fun r => match r[i]? with
  | some (some d) => .ok d
  | _ => .stuck
@[simp] def gC (d : D) : Sl → R D := fun _ => .ok d
/-- a kind that may be borrowed -/
def Kd.lends : Kd → Bool
  | .obj _ ks => lendf ks
  | .adr _ => false
  | .lls _ _ => false
  | _ => true
where
  lendf : List (Str × Kd) → Bool
    | [] => true
    | (_, k) :: r => Kd.lends k && lendf r
section
variable {cl : Cl} {N : Addr → Prop} {B Hs H : Hp}
mutual
theorem ORep.rb (eb : Same B H) : ∀ (k : Kd) (d : D) (v : V) (A : List Addr), k.lends = true → ORep cl N B Hs H k d v A → RB cl Hs H d v
  | .val, _, _, _, _, h => by cases h with | val rp => exact .val rp
  | .bor, _, _, _, _, h => by
    cases h with
    | borV rp => exact .val rp
    | borL h1 h2 => exact .lst (eb.at _ _ h1) h2
    | borK h1 h2 => exact .dct (eb.rd h1) h2
    | borO h0 h1 h2 => exact .obj h0 (eb.at _ _ h1) (RBF.same (Same.refl _) eb h2)
  | .own n, _, _, _, _, h => by
    cases h with
    | ownL h0 h1 h2 => exact .lst h1 h2
    | ownK h0 h1 h2 => exact .dct (.inl h1) h2
    | ownV h0 h1 => exact .val h1
  | .obj n ks, _, _, _, l, h => by
    cases h with
    | obj h0 h1 h2 h3 => exact .obj h1 h2 (OFs.rb eb ks _ _ _ (by simpa [Kd.lends] using l) h3)
  | .adr a, _, _, _, l, _ => by cases l
  | .lls n k, _, _, _, l, _ => by cases l
theorem OFs.rb (eb : Same B H) : ∀ (ks : List (Str × Kd)) (ds : List (Str × D)) (xs : List (Str × V)) (A : List Addr), Kd.lends.lendf ks = true → OFs cl N B Hs H ks ds xs A → RBF cl Hs H ds xs
  | [], _, _, _, _, h => by cases h; exact .nil
  | (f, k) :: ks, _, _, _, l, h => by
    have l' : k.lends = true ∧ Kd.lends.lendf ks = true := by simpa [Kd.lends.lendf] using l
    cases h with
    | cons h1 h2 => exact .cons (ORep.rb eb k _ _ _ l'.1 h1) (OFs.rb eb ks _ _ _ l'.2 h2)
end
end
section
variable {X : Cx} {E : En} {ks : List Kd}
theorem StRel.get {Hs H : Hp} {r : Sl} {σ : L2.St} {i : Nat} {k : Kd} {d : D} (S : StRel E Hs H ks r σ) (hk : ks[i]? = some k) (hd : r[i]? = some (some d)) : ∃ v A, σ[i]? = some (some v) ∧ ORep E.cl E.N E.b Hs H k d v A := by
  obtain ⟨As, s⟩ := S
  obtain ⟨pre, A, post, _, h, _⟩ := s.sl.at_ i hk
  obtain ⟨v, e, o⟩ := h d hd
  exact ⟨v, A, e, o⟩
theorem gVar_ok {i : Nat} {r : Sl} {d : D} (h : gVar i r = .ok d) : r[i]? = some (some d) := by
  unfold gVar at h
  split at h
  · rename_i d' e
    cases h
    exact e
  · cases h
theorem gVar_exc {i : Nat} {r : Sl} {x : Exc} (h : gVar i r = .exc x) : False := by
  unfold gVar at h
  split at h <;> cases h
theorem se_var {i : Nat} {x : Str} {pos : Pos} (hk : ks[i]? = some .val := by rfl) (hN : X.N[i]? = some x := by rfl) (hv : Vis X.env.scope x := by first | exact Or.inl rfl | exact Or.inr (Or.inl rfl) | exact Or.inr (Or.inr rfl))
    (hq : NmOk x) : SE X E ks .val (.Name x pos) (gVar i) := by
  refine ⟨fun Hs H r σ W Q tk S P => ?_⟩
  refine we_of (pe_var hN hv hq.1 hq.2) ?_
  cases q : gVar i r with
  | stuck => rw [q] at P; exact P.elim
  | exc x => exact (gVar_exc q).elim
  | ok d =>
    rw [q] at P
    obtain ⟨v, A, e, o⟩ := S.get hk (gVar_ok q)
    cases o with
    | val rp => exact ⟨v, e, P.finV S.sub rp⟩
theorem se_varB {i : Nat} {k : Kd} {x : Str} {pos : Pos} (hk : ks[i]? = some k := by rfl) (hl : k.lends = true := by rfl) (hN : X.N[i]? = some x := by rfl) (hv : Vis X.env.scope x := by first | exact Or.inl rfl | exact Or.inr (Or.inl rfl) | exact Or.inr (Or.inr rfl))
    (hq : NmOk x) : SE X E ks .bor (.Name x pos) (gVar i) := by
  refine ⟨fun Hs H r σ W Q tk S P => ?_⟩
  refine we_of (pe_var hN hv hq.1 hq.2) ?_
  cases q : gVar i r with
  | stuck => rw [q] at P; exact P.elim
  | exc x => exact (gVar_exc q).elim
  | ok d =>
    rw [q] at P
    obtain ⟨v, A, e, o⟩ := S.get hk (gVar_ok q)
    have eb : Same E.b H := let ⟨_, s⟩ := S; s.eb
    exact ⟨v, e, P v Hs H (Grow.refl S.sub) (RB.rk (ORep.rb eb k _ _ _ hl o))⟩
theorem se_int {i : Int} {j : Nat} {pos : Pos} : SE X E ks .val (.Constant (.int i) j pos) (gC (.int i)) := ⟨fun Hs H r σ W Q tk S P => we_of pe_int (P.finV S.sub (.int i))⟩
theorem se_bl {b : Bool} {j : Nat} {pos : Pos} : SE X E ks .val (.Constant (.bool b) j pos) (gC (.bl b)) := ⟨fun Hs H r σ W Q tk S P => we_of pe_bl (P.finV S.sub (.bl b))⟩
/-- a module's constant: a number, a text -/
theorem se_globI {x : Str} {i : Int} {t : Tok} {pos : Pos} (hm : X.mg x = some (.int i t)) (hq : NmOk x) (hg : Gl X x := by rfl) : SE X E ks .val (.Name x pos) (gC (.int i)) :=
  ⟨fun Hs H r σ W Q tk S P => we_of (pe_glob (v := .int i) hg hm ⟨t, rfl⟩ hq.1) (P.finV S.sub (.int i))⟩
end

def OpV (K : PySem.W.Frag) (rr : R2) (k : Kd) (f : D → D → R D) : Prop :=
  ∀ (cl : Cl) (Hs H : Hp) (d1 d2 : D) (v1 v2 : V) (Q : VK) (W : WX0), Same Hs H → RB cl Hs H d1 v1 → RB cl Hs H d2 v2 → Post cl k Hs H Q W (f d1 d2) → (∀ x, f d1 d2 ≠ .exc x) → rr v1 v2 H Q
@[simp] def gBin (f : D → D → R D) (ga gb : Sl → R D) : Sl → R D := fun r => do
  let a ← ga r
  let b ← gb r
  f a b
def NoX (f : D → D → R D) : Prop := ∀ a b x, f a b ≠ .exc x
section
variable {X : Cx} {E : En} {ks : List Kd} {k : Kd} {a b : Expr} {ga gb : Sl → R D} {f : D → D → R D} {pos : Pos}
theorem bin_read {rr : R2} (hv : OpV X.K rr k f) (nx : NoX f) (ha : SE X E ks .bor a ga) (hb : SE X E ks .bor b gb) {Hs H : Hp} {r : Sl} {σ : L2.St} {W : WX} {Q : VK} (tk : Takes X W) (S : StRel E Hs H ks r σ)
    (P : Post E.cl k Hs H Q (fun c dd H' => W c dd σ H') (gBin f ga gb r)) : WEx X a σ H fun x H1 => WEx X b σ H1 fun y H2 => rr x y H2 Q := by
  refine ha.run _ _ _ _ _ _ tk S (P.imp fun d1 v1 Hs1 H1 e1 g1 k1 P1 => ?_)
  refine hb.run _ _ _ _ _ _ tk (S.grow g1) (P1.imp fun d2 v2 Hs2 H2 e2 g2 k2 P2 => ?_)
  exact hv _ _ _ _ _ _ _ _ _ g2.sub (k1.rb.grow g2) k2.rb P2 (nx _ _)
theorem se_bin {op : Operator} {rr : R2} (ho : OpR X (binaryOp op) rr) (hv : OpV X.K rr k f) (nx : NoX f) (ha : SE X E ks .bor a ga) (hb : SE X E ks .bor b gb) : SE X E ks k (.BinOp a op b pos) (gBin f ga gb) :=
  ⟨fun Hs H r σ W Q tk S P => we_of (pe_op ho pe_we pe_we) (bin_read hv nx ha hb tk S P)⟩
theorem se_cmp {op : CmpOp} {rr : R2} (ho : OpR X (compareOp op) rr) (hv : OpV X.K rr k f) (nx : NoX f) (ha : SE X E ks .bor a ga) (hb : SE X E ks .bor b gb) (hm : behindInMarks op b = false := by rfl) : SE X E ks k (.Compare a [op] [b] pos) (gBin f ga gb) :=
  ⟨fun Hs H r σ W Q tk S P => we_of (pe_cmpR ho pe_we pe_we hm) (bin_read hv nx ha hb tk S P)⟩
end

theorem oN_ex (n : Nat) : ∃ m : Nat, m = n := ⟨n, rfl⟩
theorem oI_ex (n : Int) : ∃ m : Int, m = n := ⟨n, rfl⟩
def szL : Nat := Classical.choose (oN_ex 16777216)
theorem szL_val : szL = 16777216 := Classical.choose_spec (oN_ex 16777216)
def i63 : Int := Classical.choose (oI_ex (2 ^ 63))
theorem i63_val : i63 = 2 ^ 63 := Classical.choose_spec (oI_ex (2 ^ 63))
def i64 : Int := Classical.choose (oI_ex (2 ^ 64))
theorem i64_val : i64 = 2 ^ 64 := Classical.choose_spec (oI_ex (2 ^ 64))
def n64 : Nat := Classical.choose (oN_ex (2 ^ 64))
theorem n64_val : n64 = 2 ^ 64 := Classical.choose_spec (oN_ex (2 ^ 64))
def n30 : Nat := Classical.choose (oN_ex 1073741824)
theorem n30_val : n30 = 1073741824 := Classical.choose_spec (oN_ex 1073741824)
def iMil : Int := Classical.choose (oI_ex 1000000)
theorem iMil_val : iMil = 1000000 := Classical.choose_spec (oI_ex 1000000)
theorem szL_eq : (sizeLine : Nat) = szL := by rw [sizeLine_eq, szL_val]
theorem le_szL {n : Nat} (h : n ≤ 16777216) : n ≤ szL := by rw [szL_val]; exact h
theorem lt_szL {n : Nat} (h : n < 16777216) : n < szL := by rw [szL_val]; exact h
@[simp] def dAdd : D → D → R D
  | .int i, .int j => .ok (.int (i + j))
  | .str x, .str y => if x.length + y.length ≤ szL then .ok (.str (x ++ y)) else .stuck
  | .lst xs, .lst ys => if xs.length + ys.length ≤ szL then .ok (.lst (xs ++ ys)) else .stuck
  | .tup xs, .tup ys => if xs ≠ [] ∧ xs.length + ys.length ≤ szL then .ok (.tup (xs ++ ys)) else .stuck
  | _, _ => .stuck

theorem RepL.nilInv {cl : Cl} {H : Hp} {ds : List D} {xs : List V} (r : RepL cl H ds xs) : xs = [] ↔ ds = [] := by
  cases r with
  | nil => simp
  | cons _ _ => simp
theorem opv_add {X : Cx} : OpV X.K (fun x y H Q => (rI0 (fun i j => .int (i + j)) x y H Q ∨ (∃ i j, x = .str i ∧ y = .str j ∧ i.length + j.length ≤ sizeLine ∧ Q (.str (i ++ j)) H)) ∨ (rCat x y H Q ∨ rCatT X.K x y H Q)) (.own none) dAdd := by
  intro cl Hs H d1 d2 v1 v2 Q W e b1 b2 P nx
  cases d1 <;> cases d2 <;> first | exact P.elim | skip
  · cases b1.intInv
    cases b2.intInv
    exact .inl (.inl ⟨_, _, rfl, rfl, P.fin e rfl (.int _)⟩)
  · cases b1.strInv
    cases b2.strInv
    dsimp only [dAdd] at P
    split at P
    · rename_i h
      exact .inl (.inr ⟨_, _, rfl, rfl, by rw [szL_eq]; exact h, P.fin e rfl (.str _)⟩)
    · exact P.elim
  · dsimp only [dAdd] at P
    split at P
    · rename_i h
      obtain ⟨a, xs, rfl, h1, r1⟩ := b1.lstInv e
      obtain ⟨b, ys, rfl, h2, r2⟩ := b2.lstInv e
      exact .inr (.inl ⟨a, b, xs, ys, rfl, rfl, h1, h2, by rw [szL_eq, r1.length, r2.length]; exact h, fun p hp => P.finL e hp (r1.app r2)⟩)
    · exact P.elim
  · dsimp only [dAdd] at P
    split at P
    · rename_i h
      obtain ⟨n1, h⟩ := h
      have b1' := b1
      obtain ⟨a, xs, rfl, h1, r1⟩ := b1.tupInv e
      obtain ⟨b, ys, rfl, h2, r2⟩ := b2.tupInv e
      refine .inr (.inr ⟨a, b, xs, ys, rfl, rfl, SqT.of h1, SqT.of h2, fun z => n1 (r1.nilInv.mp z), by rw [szL_eq, r1.length, r2.length]; exact h, fun z => ?_, fun _ p hp => ?_⟩)
      · rw [r2.nilInv.mp z, List.append_nil] at P
        cases b1' with
        | val rr => exact P.fin e rfl rr
      · exact P _ _ _ (Grow.new e hp) (RK.ownPlain rfl (.tup upd_same (RepL.same (Same.updNew (e.free hp)) _ _ (r1.app r2))))
    · exact P.elim
@[simp] def dSub : D → D → R D
  | .int i, .int j => .ok (.int (i - j))
  | _, _ => .stuck
/-- a product that the model reckons -/
def w600 : Nat := Classical.choose (oN_ex (2 ^ 2000))
theorem w600_val : w600 = 2 ^ 2000 := Classical.choose_spec (oN_ex (2 ^ 2000))
def wideOk (i j : Int) : Bool := decide (i.natAbs < w600) && decide (j.natAbs < w600)
def mulOk (i j : Int) : Bool := ((decide (-i64 < i) && decide (i < i64)) || (decide (-i64 < j) && decide (j < i64))) || wideOk i j
@[simp] def dMul : D → D → R D
  | .int i, .int j => if mulOk i j then .ok (.int (i * j)) else .stuck
  | .lst xs, .int k => if -i63 ≤ k ∧ k < i63 ∧ xs.length * k.toNat ≤ szL then .ok (.lst (List.replicate k.toNat xs).flatten) else .stuck
  | _, _ => .stuck
@[simp] def dFdiv : D → D → R D
  | .int i, .int j => if (j ≠ 0 ∧ j.natAbs < n30) ∨ (0 < j ∧ j.natAbs < w600) then .ok (.int (i.fdiv j)) else .stuck
  | _, _ => .stuck
@[simp] def dMod : D → D → R D
  | .int i, .int j => if j ≠ 0 then .ok (.int (i.fmod j)) else .stuck
  | _, _ => .stuck
def dPow : D → D → R D
  | .int i, .int j => if 0 ≤ j ∧ j ≤ iMil ∧ i.natAbs < n64 then .ok (.int (i ^ j.toNat)) else .stuck
  | _, _ => .stuck
@[simp] def dNeg : D → R D
  | .int i => .ok (.int (-i))
  | _ => .stuck
theorem opv_int2 {K : PySem.W.Frag} {f : D → D → R D} {C : Int → Int → Prop} {g : Int → Int → Int} (h : ∀ d1 d2, f d1 d2 ≠ .stuck → ∃ i j, d1 = .int i ∧ d2 = .int j ∧ C i j ∧ f d1 d2 = .ok (.int (g i j))) : OpV K (rI C fun i j => .int (g i j)) .val f := by
  intro cl Hs H d1 d2 v1 v2 Q W e b1 b2 P nx
  have ns : f d1 d2 ≠ .stuck := fun z => by rw [z] at P; exact P
  obtain ⟨i, j, rfl, rfl, c, q⟩ := h _ _ ns
  cases b1.intInv
  cases b2.intInv
  rw [q] at P
  exact ⟨i, j, rfl, rfl, c, P.finV e (.int _)⟩
theorem opv_int0 {K : PySem.W.Frag} {f : D → D → R D} {g : Int → Int → V} {gd : Int → Int → D} (h : ∀ d1 d2, f d1 d2 ≠ .stuck → ∃ i j, d1 = .int i ∧ d2 = .int j ∧ f d1 d2 = .ok (gd i j)) (hr : ∀ cl H i j, Rep cl H (gd i j) (g i j)) : OpV K (rI0 g) .val f := by
  intro cl Hs H d1 d2 v1 v2 Q W e b1 b2 P nx
  have ns : f d1 d2 ≠ .stuck := fun z => by rw [z] at P; exact P
  obtain ⟨i, j, rfl, rfl, q⟩ := h _ _ ns
  cases b1.intInv
  cases b2.intInv
  rw [q] at P
  exact ⟨i, j, rfl, rfl, P.finV e (hr _ _ _ _)⟩
theorem opv_sub {X : Cx} : OpV X.K (rI0 fun i j => .int (i - j)) .val dSub := opv_int0 (gd := fun i j => .int (i - j)) (fun d1 d2 ns => by
  cases d1 <;> cases d2 <;> first | exact (ns rfl).elim | exact ⟨_, _, rfl, rfl, rfl⟩) fun _ _ _ _ => .int _
theorem opv_fdiv {X : Cx} : OpV X.K (fun x y H Q => rI CDivN (fun i j => .int (i.fdiv j)) x y H Q ∨ rI CDivW (fun i j => .int (i / j)) x y H Q) .val dFdiv := by
  intro cl Hs H d1 d2 v1 v2 Q W e b1 b2 P nx
  cases d1 <;> cases d2 <;> first | exact P.elim | skip
  cases b1.intInv
  cases b2.intInv
  rename_i i j
  dsimp only [dFdiv] at P
  split at P
  · rename_i h
    by_cases c : j ≠ 0 ∧ j.natAbs < n30
    · exact .inl ⟨_, _, rfl, rfl, by have z := c; rw [n30_val] at z; exact z, P.finV e (.int _)⟩
    · have h2 := h.resolve_left c
      rw [Int.fdiv_eq_ediv_of_nonneg i (by omega)] at P
      exact .inr ⟨_, _, rfl, rfl, wide_div (b := 2000) h2.1 (by have z := h2.2; rw [w600_val] at z; exact z) (by decide) (by decide), P.finV e (.int _)⟩
  · exact P.elim
theorem opv_mod {X : Cx} : OpV X.K (rI (fun _ j => j ≠ 0) fun i j => .int (i.fmod j)) .val dMod := opv_int2 fun d1 d2 ns => by
  cases d1 <;> cases d2 <;> first | exact (ns rfl).elim | skip
  dsimp only [dMod] at ns ⊢
  split at ns
  · rename_i h
    exact ⟨_, _, rfl, rfl, h, by rw [if_pos h]⟩
  · exact (ns rfl).elim
theorem opv_pow {X : Cx} : OpV X.K (rI CPow fun i j => .int (i ^ j.toNat)) .val dPow := opv_int2 fun d1 d2 ns => by
  cases d1 <;> cases d2 <;> first | exact (ns rfl).elim | skip
  dsimp only [dPow] at ns ⊢
  split at ns
  · rename_i h
    exact ⟨_, _, rfl, rfl, by have z := h; rw [iMil_val, n64_val] at z; exact z, by rw [if_pos h]⟩
  · exact (ns rfl).elim
theorem mulOk_iff {i j : Int} (h : mulOk i j = true) : CMul i j ∨ CMulW i j := by
  unfold mulOk wideOk at h
  simp only [Bool.or_eq_true, Bool.and_eq_true, decide_eq_true_eq, i64_val, w600_val] at h
  rcases h with h | h
  · exact .inl h
  · exact .inr (wide_mul (a := 2000) (b := 2000) h.1 h.2 (by decide) (by decide) (by decide))
theorem RepL.rep {cl : Cl} {H : Hp} {ds : List D} {vs : List V} (h : RepL cl H ds vs) : ∀ k : Nat, RepL cl H (List.replicate k ds).flatten (List.replicate k vs).flatten
  | 0 => .nil
  | k + 1 => by
    rw [List.replicate_succ, List.replicate_succ, List.flatten_cons, List.flatten_cons]
    exact h.app (RepL.rep h k)
theorem opv_mul {X : Cx} : OpV X.K (fun x y H Q => (rI CMul (fun i j => .int (i * j)) x y H Q ∨ rI CMulW (fun i j => .int (i * j)) x y H Q) ∨ rRep x y H Q) (.own none) dMul := by
  intro cl Hs H d1 d2 v1 v2 Q W e b1 b2 P nx
  cases d1 <;> cases d2 <;> first | exact P.elim | skip
  · cases b1.intInv
    cases b2.intInv
    dsimp only [dMul] at P
    split at P
    · rename_i h
      rcases mulOk_iff h with h | h
      · exact .inl (.inl ⟨_, _, rfl, rfl, h, P.fin e rfl (.int _)⟩)
      · exact .inl (.inr ⟨_, _, rfl, rfl, h, P.fin e rfl (.int _)⟩)
    · exact P.elim
  · cases b2.intInv
    dsimp only [dMul] at P
    split at P
    · rename_i h
      obtain ⟨a, xs, rfl, h1, r1⟩ := b1.lstInv e
      refine .inr ⟨a, _, xs, rfl, rfl, h1, by have := h.1; rw [i63_val] at this; exact this, by have := h.2.1; rw [i63_val] at this; exact this, by rw [szL_eq, r1.length]; exact h.2.2, fun p hp => P.finL e hp (r1.rep _)⟩
    · exact P.elim
theorem nox_add : NoX dAdd := fun a b x h => by
  cases a <;> cases b <;> dsimp only [dAdd] at h <;> first | (split at h <;> cases h) | cases h
theorem nox_sub : NoX dSub := fun a b x h => by cases a <;> cases b <;> exact (nomatch h)
theorem nox_mul : NoX dMul := fun a b x h => by
  cases a <;> cases b <;> dsimp only [dMul] at h <;> first | (split at h <;> cases h) | cases h
theorem nox_fdiv : NoX dFdiv := fun a b x h => by
  cases a <;> cases b <;> dsimp only [dFdiv] at h <;> first | (split at h <;> cases h) | cases h
theorem nox_mod : NoX dMod := fun a b x h => by
  cases a <;> cases b <;> dsimp only [dMod] at h <;> first | (split at h <;> cases h) | cases h
theorem nox_pow : NoX dPow := fun a b x h => by
  cases a <;> cases b <;> dsimp only [dPow] at h <;> first | (split at h <;> cases h) | cases h
section
variable {X : Cx} {E : En} {ks : List Kd} {a b : Expr} {ga gb : Sl → R D} {pos : Pos}
theorem se_add (ha : SE X E ks .bor a ga) (hb : SE X E ks .bor b gb) : SE X E ks (.own none) (.BinOp a .Add b pos) (gBin dAdd ga gb) :=
  se_bin ((op_add.or op_add_str).or (op_cat.or op_catT)) opv_add nox_add ha hb
theorem se_sub (ha : SE X E ks .bor a ga) (hb : SE X E ks .bor b gb) : SE X E ks .val (.BinOp a .Sub b pos) (gBin dSub ga gb) := se_bin op_sub opv_sub nox_sub ha hb
theorem se_mul (ha : SE X E ks .bor a ga) (hb : SE X E ks .bor b gb) : SE X E ks (.own none) (.BinOp a .Mult b pos) (gBin dMul ga gb) := se_bin ((op_mul.or op_mulW).or op_rep) opv_mul nox_mul ha hb
theorem se_fdiv (ha : SE X E ks .bor a ga) (hb : SE X E ks .bor b gb) : SE X E ks .val (.BinOp a .FloorDiv b pos) (gBin dFdiv ga gb) := se_bin (op_fdivN.or op_fdivW) opv_fdiv nox_fdiv ha hb
theorem se_mod (ha : SE X E ks .bor a ga) (hb : SE X E ks .bor b gb) : SE X E ks .val (.BinOp a .Mod b pos) (gBin dMod ga gb) := se_bin op_modN opv_mod nox_mod ha hb
theorem se_pow (ha : SE X E ks .bor a ga) (hb : SE X E ks .bor b gb) : SE X E ks .val (.BinOp a .Pow b pos) (gBin dPow ga gb) := se_bin op_pow opv_pow nox_pow ha hb
@[simp] def gUn (f : D → R D) (ga : Sl → R D) : Sl → R D := fun r => do
  let a ← ga r
  f a
theorem se_neg (ha : SE X E ks .bor a ga) : SE X E ks .val (.UnaryOp .USub a pos) (gUn dNeg ga) := by
  refine ⟨fun Hs H r σ W Q tk S P => ?_⟩
  refine we_of (pe_un un_neg pe_we) ?_
  refine ha.run _ _ _ _ _ _ tk S (P.imp fun d v Hs1 H1 e1 g1 k1 P1 => ?_)
  cases d <;> first | exact P1.elim | skip
  cases k1.rb.intInv
  exact ⟨_, rfl, P1.finV g1.sub (.int _)⟩
end

mutual
def toPy : D → PyData
  | .non => .none
  | .bl b => .bool b
  | .int i => .int i
  | .str x => .str x
  | .lst xs => .list (toPys xs)
  | .tup xs => .tuple (toPys xs)
  | .dct _ => .dict []
  | .obj _ _ => .dict []
  | .scr _ => .dict []
def toPys : List D → List PyData
  | [] => []
  | d :: ds => toPy d :: toPys ds
end
section
variable {cl : Cl} {K : PySem.W.Frag} {H : Hp}
mutual
theorem Rep.dp : ∀ (d : D) (v : V), (toPy d).canLay0 = true → Rep cl H d v → Dp K H v (toPy d)
  | .non, _, _, h => by cases h; exact .non
  | .bl b, _, _, h => by cases h; exact .bl b
  | .int i, _, _, h => by cases h; exact .int i
  | .str x, _, _, h => by cases h; exact .str x
  | .lst ds, _, c, h => by
    cases h with
    | lst h1 h2 => exact .lst (SqL.of h1) (RepL.dp ds _ c h2)
  | .tup ds, _, c, h => by
    cases h with
    | tup h1 h2 => exact .tup (SqT.of h1) (RepL.dp ds _ c h2)
  | .dct ds, _, c, h => by cases c
  | .obj C ds, _, c, h => by cases c
  | .scr ns, _, c, h => by cases c
theorem RepL.dp : ∀ (ds : List D) (vs : List V), PyData.canLayAll0 (toPys ds) = true → RepL cl H ds vs → DpAll K H vs (toPys ds)
  | [], _, _, h => by cases h; exact .nil
  | d :: ds, _, c, h => by
    have c' : (toPy d).canLay0 = true ∧ PyData.canLayAll0 (toPys ds) = true := by
      have q : ((toPy d).canLay0 && PyData.canLayAll0 (toPys ds)) = true := c
      simpa using q
    cases h with
    | cons h1 h2 => exact .cons (Rep.dp d _ c'.1 h1) (RepL.dp ds _ c'.2 h2)
end
theorem RB.dp {Hs : Hp} {d : D} {v : V} (e : Same Hs H) (c : (toPy d).canLay0 = true) (h : RB cl Hs H d v) : Dp K H v (toPy d) := by
  cases h with
  | val r => exact Rep.dp _ _ c (Rep.same e _ _ r)
  | lst h1 h2 => exact .lst (SqL.of h1) (RepL.dp _ _ c (RepL.same e _ _ h2))
  | dct _ _ => cases c
  | obj _ _ _ => cases c
end
def dEqB (a b : D) : Bool := PyData.eqv (toPy a) (toPy b)
def shp (a : D) : Bool := SeqAt.shaped (toPy a)
def dEq : D → D → R D := fun a b => if shp a && shp b then .ok (.bl (dEqB a b)) else .stuck
def dNe : D → D → R D := fun a b => if shp a && shp b then .ok (.bl (!dEqB a b)) else .stuck
theorem nox_eq : NoX dEq := fun a b x h => by unfold dEq at h; split at h <;> cases h
theorem nox_ne : NoX dNe := fun a b x h => by unfold dNe at h; split at h <;> cases h
theorem opv_eq {X : Cx} : OpV X.K (rEqD X.K) .val dEq := by
  intro cl Hs H d1 d2 v1 v2 Q W e b1 b2 P nx
  unfold dEq at P
  split at P
  · rename_i h
    have h' : shp d1 = true ∧ shp d2 = true := by simpa using h
    exact ⟨toPy d1, toPy d2, b1.dp e (SeqAt.canLay_of_shaped h'.1), b2.dp e (SeqAt.canLay_of_shaped h'.2), h'.1, h'.2, P.finV e (.bl _)⟩
  · exact P.elim
theorem opv_ne {X : Cx} : OpV X.K (rNeD X.K) .val dNe := by
  intro cl Hs H d1 d2 v1 v2 Q W e b1 b2 P nx
  unfold dNe at P
  split at P
  · rename_i h
    have h' : shp d1 = true ∧ shp d2 = true := by simpa using h
    exact ⟨toPy d1, toPy d2, b1.dp e (SeqAt.canLay_of_shaped h'.1), b2.dp e (SeqAt.canLay_of_shaped h'.2), h'.1, h'.2, P.finV e (.bl _)⟩
  · exact P.elim
@[simp] def dLt : D → D → R D
  | .int i, .int j => .ok (.bl (decide (i < j)))
  | _, _ => .stuck
@[simp] def dLe : D → D → R D
  | .int i, .int j => .ok (.bl (decide (i ≤ j)))
  | _, _ => .stuck
@[simp] def dGt : D → D → R D
  | .int i, .int j => .ok (.bl (decide (j < i)))
  | _, _ => .stuck
@[simp] def dGe : D → D → R D
  | .int i, .int j => .ok (.bl (decide (j ≤ i)))
  | _, _ => .stuck
theorem nox_lt : NoX dLt := fun a b x h => by cases a <;> cases b <;> exact (nomatch h)
theorem nox_le : NoX dLe := fun a b x h => by cases a <;> cases b <;> exact (nomatch h)
theorem nox_gt : NoX dGt := fun a b x h => by cases a <;> cases b <;> exact (nomatch h)
theorem nox_ge : NoX dGe := fun a b x h => by cases a <;> cases b <;> exact (nomatch h)
theorem opv_lt {X : Cx} : OpV X.K (rI0 fun i j => .bl (decide (i < j))) .val dLt := opv_int0 (gd := fun i j => .bl (decide (i < j))) (fun d1 d2 ns => by
  cases d1 <;> cases d2 <;> first | exact (ns rfl).elim | exact ⟨_, _, rfl, rfl, rfl⟩) fun _ _ _ _ => .bl _
theorem opv_le {X : Cx} : OpV X.K (rI0 fun i j => .bl (decide (i ≤ j))) .val dLe := opv_int0 (gd := fun i j => .bl (decide (i ≤ j))) (fun d1 d2 ns => by
  cases d1 <;> cases d2 <;> first | exact (ns rfl).elim | exact ⟨_, _, rfl, rfl, rfl⟩) fun _ _ _ _ => .bl _
theorem opv_gt {X : Cx} : OpV X.K (rI0 fun i j => .bl (decide (j < i))) .val dGt := opv_int0 (gd := fun i j => .bl (decide (j < i))) (fun d1 d2 ns => by
  cases d1 <;> cases d2 <;> first | exact (ns rfl).elim | exact ⟨_, _, rfl, rfl, rfl⟩) fun _ _ _ _ => .bl _
theorem opv_ge {X : Cx} : OpV X.K (rI0 fun i j => .bl (decide (j ≤ i))) .val dGe := opv_int0 (gd := fun i j => .bl (decide (j ≤ i))) (fun d1 d2 ns => by
  cases d1 <;> cases d2 <;> first | exact (ns rfl).elim | exact ⟨_, _, rfl, rfl, rfl⟩) fun _ _ _ _ => .bl _
section
variable {X : Cx} {E : En} {ks : List Kd} {a b : Expr} {ga gb : Sl → R D} {pos : Pos}
end
end VL
end

noncomputable section
namespace VL
open PySem PySem.Spec PyProof.Rows L2
variable {md : Md}

def PostT (cl : Cl) (Hs H : Hp) (Q : Bool → Hp → Prop) (W : WX0) : R Bool → Prop
  | .stuck => False
  | .exc x => ∀ c dd Hs' H', Grow Hs H Hs' H' → XRep cl Hs' H' x c dd → W c dd H'
  | .ok b => ∀ Hs' H', Grow Hs H Hs' H' → Q b H'
theorem PostT.grow {cl : Cl} {Hs H Hs' H' : Hp} {Q : Bool → Hp → Prop} {W : WX0} {r : R Bool} (P : PostT cl Hs H Q W r) (g : Grow Hs H Hs' H') : PostT cl Hs' H' Q W r := by
  cases r with
  | stuck => exact P
  | exc x => exact fun c dd Hs2 H2 g2 x2 => P c dd Hs2 H2 (g.trans g2) x2
  | ok d => exact fun Hs2 H2 g2 => P Hs2 H2 (g.trans g2)
structure ST [md : Md] (X : Cx) (E : En) (ks : List Kd) (e : Expr) (g : Sl → R Bool) : Prop where
  run : ∀ (Hs H : Hp) (r : Sl) (σ : L2.St) (W : WX) (Q : Bool → Hp → Prop), Takes X W → StRel E Hs H ks r σ → PostT E.cl Hs H Q (fun c dd H' => W c dd σ H') (g r) → WTx X e σ H Q
def WWx (X : Cx) (e : Expr) : TT := fun σ H Q => ∀ (whole : Sem Value) (pins : List (Addr × Obj)) (s : Shared), Inv X pins σ H s → wpAny (model X.prog X.w) X.A (isTrue e X.env whole) (TP X pins σ Q) X.xe s
theorem pw_ww {X : Cx} {e : Expr} : PW X e (WWx X e) := ⟨fun whole pins s _ _ _ I h => h whole pins s I⟩
theorem ww_of {X : Cx} {e : Expr} {t : TT} {σ : L2.St} {H : Hp} {Q : Bool → Hp → Prop} (p : PW X e t) (h : t σ H Q) : WWx X e σ H Q := fun whole pins s I => p.run whole pins s σ H Q I h
structure SW [md : Md] (X : Cx) (E : En) (ks : List Kd) (e : Expr) (g : Sl → R Bool) : Prop where
  run : ∀ (Hs H : Hp) (r : Sl) (σ : L2.St) (W : WX) (Q : Bool → Hp → Prop), Takes X W → StRel E Hs H ks r σ → PostT E.cl Hs H Q (fun c dd H' => W c dd σ H') (g r) → WWx X e σ H Q
/-- a bool -/
@[simp] def asB : D → R Bool
  | .bl b => .ok b
  | _ => .stuck
@[simp] def gTest (g : Sl → R D) : Sl → R Bool := fun r => do
  let d ← g r
  asB d
section
variable {X : Cx} {E : En} {ks : List Kd} {a b c e : Expr} {ga gb g : Sl → R D} {ta tb tc : Sl → R Bool} {rest : List Expr} {pos : Pos}
theorem Post.ofT {cl : Cl} {k : Kd} {Hs H : Hp} {Q : Bool → Hp → Prop} {W : WX0} {r : R D} {f : D → R Bool} (P : PostT cl Hs H Q W (r >>= f)) {Q1 : VK}
    (h : ∀ d v Hs' H', r = .ok d → Grow Hs H Hs' H' → RK cl k H Hs' H' d v → PostT cl Hs' H' Q W (f d) → Q1 v H') : Post cl k Hs H Q1 W r := by
  cases r with
  | stuck => exact P
  | exc x => exact P
  | ok d => exact fun v Hs' H' g rk => h d v Hs' H' rfl g rk (PostT.grow (r := f d) P g)
theorem PostT.imp {cl : Cl} {Hs H : Hp} {Q Q1 : Bool → Hp → Prop} {W : WX0} {r : R Bool} {f : Bool → R Bool} (P : PostT cl Hs H Q W (r >>= f))
    (h : ∀ b Hs' H', r = .ok b → Grow Hs H Hs' H' → PostT cl Hs' H' Q W (f b) → Q1 b H') : PostT cl Hs H Q1 W r := by
  cases r with
  | stuck => exact P
  | exc x => exact P
  | ok d => exact fun Hs' H' g => h d Hs' H' rfl g (PostT.grow (r := f d) P g)
theorem PostT.to {cl : Cl} {k : Kd} {Hs H : Hp} {Q1 : Bool → Hp → Prop} {Q : VK} {W : WX0} {r : R Bool} {f : Bool → R D} (P : Post cl k Hs H Q W (r >>= f))
    (h : ∀ b Hs' H', r = .ok b → Grow Hs H Hs' H' → Post cl k Hs' H' Q W (f b) → Q1 b H') : PostT cl Hs H Q1 W r := by
  cases r with
  | stuck => exact P
  | exc x => exact P
  | ok d => exact fun Hs' H' g => h d Hs' H' rfl g (Post.grow (r := f d) P g)
/-- an expression that gives a bool, as a test -/
theorem st_val (h : SE X E ks .bor e g) (he : ∀ whole, isTrue e X.env whole = (do let v ← whole; standAt e.pos; holding [v] (truthy v)) := by intro _; rfl) : ST X E ks e (gTest g) := by
  refine ⟨fun Hs H r σ W Q tk S P => ?_⟩
  refine wt_of (pt_val pe_we he) ?_
  refine h.run _ _ _ _ _ _ tk S (Post.ofT P fun d v Hs' H' e1 g1 k1 P1 => ?_)
  cases d <;> first | exact P1.elim | skip
  cases k1.rb.blInv
  exact ⟨_, rfl, P1 Hs' H' (Grow.refl g1.sub)⟩
/-- a comparison as a test -/
theorem st_cmp {op : CmpOp} {rr : R2} {f : D → D → R D} (ho : OpR X (compareOp op) rr) (hv : OpV X.K rr .val f) (nx : NoX f) (ha : SE X E ks .bor a ga) (hb : SE X E ks .bor b gb) (hm : behindInMarks op b = false := by rfl) : ST X E ks (.Compare a [op] [b] pos) (gTest (gBin f ga gb)) := by
  refine ⟨fun Hs H r σ W Q tk S P => ?_⟩
  refine wt_of (pt_cmpR ho pe_we pe_we hm) ?_
  refine bin_read hv nx ha hb tk S (Post.ofT P fun d v Hs' H' e1 g1 k1 P1 => ?_)
  cases d <;> first | exact P1.elim | skip
  have rp := k1.rep
  cases rp
  exact ⟨_, rfl, P1 Hs' H' (Grow.refl g1.sub)⟩
theorem st_of (h : SW X E ks e ta) : ST X E ks e ta := ⟨fun Hs H r σ W Q tk S P => wt_of pw_ww.pt (h.run _ _ _ _ _ _ tk S P)⟩
@[simp] def gAnd (ta tb : Sl → R Bool) : Sl → R Bool := fun r => do
  let b ← ta r
  if b then tb r else .ok false
@[simp] def gOr (ta tb : Sl → R Bool) : Sl → R Bool := fun r => do
  let b ← ta r
  if b then .ok true else tb r
@[simp] def gNot (ta : Sl → R Bool) : Sl → R Bool := fun r => do
  let b ← ta r
  .ok (!b)
theorem sw_and1 (ha : ST X E ks a ta) : SW X E ks (.BoolOp .And [a] pos) ta := ⟨fun Hs H r σ W Q tk S P => ww_of (pw_and1 pt_wt) (ha.run _ _ _ _ _ _ tk S P)⟩
theorem sw_or1 (ha : ST X E ks a ta) : SW X E ks (.BoolOp .Or [a] pos) ta := ⟨fun Hs H r σ W Q tk S P => ww_of (pw_or1 pt_wt) (ha.run _ _ _ _ _ _ tk S P)⟩
theorem sw_and (ha : ST X E ks a ta) (hb : SW X E ks (.BoolOp .And (b :: rest) pos) tb) : SW X E ks (.BoolOp .And (a :: b :: rest) pos) (gAnd ta tb) := by
  refine ⟨fun Hs H r σ W Q tk S P => ?_⟩
  refine ww_of (pw_and pt_wt pw_ww) ?_
  refine ha.run _ _ _ _ _ _ tk S (PostT.imp P fun x Hs' H' e1 g1 P1 => ?_)
  cases x with
  | true => exact hb.run _ _ _ _ _ _ tk (S.grow g1) P1
  | false => exact P1 Hs' H' (Grow.refl g1.sub)
theorem sw_or (ha : ST X E ks a ta) (hb : SW X E ks (.BoolOp .Or (b :: rest) pos) tb) : SW X E ks (.BoolOp .Or (a :: b :: rest) pos) (gOr ta tb) := by
  refine ⟨fun Hs H r σ W Q tk S P => ?_⟩
  refine ww_of (pw_or pt_wt pw_ww) ?_
  refine ha.run _ _ _ _ _ _ tk S (PostT.imp P fun x Hs' H' e1 g1 P1 => ?_)
  cases x with
  | false => exact hb.run _ _ _ _ _ _ tk (S.grow g1) P1
  | true => exact P1 Hs' H' (Grow.refl g1.sub)
theorem st_not (ha : ST X E ks a ta) : ST X E ks (.UnaryOp .Not a pos) (gNot ta) := by
  refine ⟨fun Hs H r σ W Q tk S P => ?_⟩
  refine wt_of (pt_not pt_wt) ?_
  exact ha.run _ _ _ _ _ _ tk S (PostT.imp P fun x Hs' H' e1 g1 P1 => P1 Hs' H' (Grow.refl g1.sub))
@[simp] def vAnd (ga gb : Sl → R D) : Sl → R D := fun r => do
  let d ← ga r
  let b ← asB d
  if b then gb r else .ok (.bl false)
theorem se_one {op : PySem.BoolOp} (ha : SE X E ks .val a ga) : SE X E ks .val (.BoolOp op [a] pos) ga := ⟨fun Hs H r σ W Q tk S P => we_of (pe_one pe_we) (ha.run _ _ _ _ _ _ tk S P)⟩
theorem se_and (ha : SE X E ks .val a ga) (hb : SE X E ks .val (.BoolOp .And (b :: rest) pos) gb) : SE X E ks .val (.BoolOp .And (a :: b :: rest) pos) (vAnd ga gb) := by
  refine ⟨fun Hs H r σ W Q tk S P => ?_⟩
  refine we_of (pe_and pe_we pe_we) ?_
  refine ha.run _ _ _ _ _ _ tk S (Post.imp (F := fun d => asB d >>= fun b => if b then gb r else .ok (.bl false)) P fun d v Hs' H' e1 g1 k1 P1 => ?_)
  cases d <;> first | exact P1.elim | skip
  have rp := k1.rep
  cases rp
  rename_i q
  refine ⟨q, rfl, ?_⟩
  cases q with
  | true => exact iteT (hb.run _ _ _ _ _ _ tk (S.grow g1) P1)
  | false => exact iteF (Post.finV P1 g1.sub (.bl false))
@[simp] def gIf (tc : Sl → R Bool) (ga gb : Sl → R D) : Sl → R D := fun r => do
  let b ← tc r
  if b then ga r else gb r
theorem se_if {k : Kd} (hc : ST X E ks c tc) (ha : SE X E ks k a ga) (hb : SE X E ks k b gb) : SE X E ks k (.IfExp c a b pos) (gIf tc ga gb) := by
  refine ⟨fun Hs H r σ W Q tk S P => ?_⟩
  refine we_of (pe_ifExp pt_wt pe_we pe_we) ?_
  refine hc.run _ _ _ _ _ _ tk S (PostT.to P fun x Hs' H' e1 g1 P1 => ?_)
  have fin : ∀ {k : Kd}, Post E.cl k Hs' H' Q (fun c dd H' => W c dd σ H') (if x then ga r else gb r) → Post E.cl k Hs' H' Q (fun c dd H' => W c dd σ H') (if x then ga r else gb r) := fun z => z
  cases x with
  | true => exact iteT (ha.run _ _ _ _ _ _ tk (S.grow g1) P1)
  | false => exact iteF (hb.run _ _ _ _ _ _ tk (S.grow g1) P1)
end

@[simp] def dIsN : D → R D
  | .non => .ok (.bl true)
  | _ => .ok (.bl false)
section
variable {X : Cx} {E : En} {ks : List Kd} {a : Expr} {ga : Sl → R D} {pos pos' : Pos} {j : Nat}
theorem RB.isN {cl : Cl} {Hs H : Hp} {d : D} {v : V} (h : RB cl Hs H d v) : decide (v = V.non) = (match d with | .non => true | _ => false) := by
  cases h with
  | val r => cases r <;> rfl
  | lst _ _ => rfl
  | dct _ _ => rfl
  | obj _ _ _ => rfl
theorem se_isN (ha : SE X E ks .bor a ga) : SE X E ks .val (.Compare a [.Is] [.Constant .none j pos'] pos) (gUn dIsN ga) := by
  refine ⟨fun Hs H r σ W Q tk S P => ?_⟩
  refine we_of (pe_cmp (pc_isN pe_we) rfl) ?_
  refine ha.run _ _ _ _ _ _ tk S (P.imp fun d v Hs1 H1 e1 g1 k1 P1 => ?_)
  show Q (V.bl (decide (v = .non))) H1
  rw [k1.rb.isN]
  cases d <;> exact P1.finV g1.sub (.bl _)
theorem st_isN (ha : SE X E ks .bor a ga) : ST X E ks (.Compare a [.Is] [.Constant .none j pos'] pos) (gTest (gUn dIsN ga)) := by
  refine ⟨fun Hs H r σ W Q tk S P => ?_⟩
  refine wt_of (pt_cmp (pc_isN pe_we) rfl) ?_
  have P' : PostT E.cl Hs H Q (fun c dd H' => W c dd σ H') (ga r >>= fun d => dIsN d >>= asB) := by
    unfold gTest gUn at P
    cases q : ga r <;> rw [q] at P <;> exact P
  refine ha.run _ _ _ _ _ _ tk S (Post.ofT P' fun d v Hs1 H1 e1 g1 k1 P1 => ?_)
  refine ⟨_, rfl, ?_⟩
  rw [k1.rb.isN]
  cases d <;> exact P1 Hs1 H1 (Grow.refl g1.sub)
end

theorem atI_rep {cl : Cl} {H : Hp} {ds : List D} {vs : List V} {i : Int} {d : D} (r : RepL cl H ds vs) (h : atI ds i = some d) : ∃ v, atI vs i = some v ∧ Rep cl H d v := by
  unfold atI at h ⊢
  rw [r.length]
  cases q : ixN ds.length i with
  | none => rw [q] at h; cases h
  | some j =>
    rw [q] at h
    have h' : ds[j]? = some d := h
    obtain ⟨v, e, rp⟩ := r.get h'
    exact ⟨v, e, rp⟩
@[simp] def dIdx : D → D → R D
  | .lst ds, .int i => match atI ds i with
    | some d => .ok d
    | none => .stuck
  | .tup ds, .int i => match atI ds i with
    | some d => .ok d
    | none => .stuck
  | .str z, .int i => if z.length ≤ szL then (match atI z.cps.toList i with
    | some c => .ok (.str ⟨#[c]⟩)
    | none => .stuck) else .stuck
  | _, _ => .stuck
theorem nox_idx : NoX dIdx := fun a b x h => by
  cases a <;> cases b <;> dsimp only [dIdx] at h <;> first | (split at h <;> first | cases h | (split at h <;> cases h)) | cases h
theorem opv_idx {X : Cx} : OpV X.K (rIx X.K) .val dIdx := by
  intro cl Hs H d1 d2 v1 v2 Q W e b1 b2 P nx
  cases d1 <;> cases d2 <;> first | exact P.elim | skip
  · cases b1.strInv
    cases b2.intInv
    dsimp only [dIdx] at P
    split at P
    · rename_i h
      split at P
      · rename_i c q
        exact .inr (.inr ⟨_, _, c, rfl, rfl, by rw [szL_eq]; exact h, q, P.finV e (.str _)⟩)
      · exact P.elim
    · exact P.elim
  · cases b2.intInv
    dsimp only [dIdx] at P
    split at P
    · rename_i d q
      obtain ⟨l, xs, rfl, h1, r1⟩ := b1.lstInv e
      obtain ⟨v, e2, rp⟩ := atI_rep r1 q
      exact .inl ⟨l, xs, _, v, rfl, rfl, SqL.of h1, e2, P.finV e rp⟩
    · exact P.elim
  · cases b2.intInv
    dsimp only [dIdx] at P
    split at P
    · rename_i d q
      obtain ⟨l, xs, rfl, h1, r1⟩ := b1.tupInv e
      obtain ⟨v, e2, rp⟩ := atI_rep r1 q
      exact .inr (.inl ⟨l, xs, _, v, rfl, rfl, SqT.of h1, e2, P.finV e rp⟩)
    · exact P.elim
theorem se_ix {X : Cx} {E : En} {ks : List Kd} {a b : Expr} {ga gb : Sl → R D} {pos : Pos} (ha : SE X E ks .bor a ga) (hb : SE X E ks .bor b gb) (hs : PlainIx b := by exact fun _ _ => rfl) : SE X E ks .val (.Subscript a b pos) (gBin dIdx ga gb) :=
  ⟨fun Hs H r σ W Q tk S P => we_of (pe_ix ix_seq pe_we pe_we hs) (bin_read opv_idx nox_idx ha hb tk S P)⟩

def cutL {α : Type} (xs : List α) (lo hi : Option Int) : List α := (xs.drop (HT.sIx xs.length 0 lo)).take (HT.sIx xs.length xs.length hi - HT.sIx xs.length 0 lo)
theorem cut_rep {cl : Cl} {H : Hp} {ds : List D} {vs : List V} {lo hi : Option Int} (r : RepL cl H ds vs) : RepL cl H (cutL ds lo hi) (cutV vs lo hi) := by
  unfold cutL cutV
  rw [r.length]
  exact (r.drop _).take _
/-- an end of a slice -/
def PostO (cl : Cl) (Hs H : Hp) (Q : Option Int → Hp → Prop) (W : WX0) : R (Option Int) → Prop
  | .stuck => False
  | .exc x => ∀ c dd Hs' H', Grow Hs H Hs' H' → XRep cl Hs' H' x c dd → W c dd H'
  | .ok b => ∀ Hs' H', Grow Hs H Hs' H' → Q b H'
theorem PostO.grow {cl : Cl} {Hs H Hs' H' : Hp} {Q : Option Int → Hp → Prop} {W : WX0} {r : R (Option Int)} (P : PostO cl Hs H Q W r) (g : Grow Hs H Hs' H') : PostO cl Hs' H' Q W r := by
  cases r with
  | stuck => exact P
  | exc x => exact fun c dd Hs2 H2 g2 x2 => P c dd Hs2 H2 (g.trans g2) x2
  | ok d => exact fun Hs2 H2 g2 => P Hs2 H2 (g.trans g2)
def WOx (X : Cx) (e : Option Expr) : TO := fun σ H Q => ∃ t, PO X e t ∧ t σ H Q
theorem po_wo {X : Cx} {e : Option Expr} : PO X e (WOx X e) := ⟨fun pins s σ H Q I ⟨t, p, h⟩ => p.run pins s σ H Q I h⟩
structure SO [md : Md] (X : Cx) (E : En) (ks : List Kd) (e : Option Expr) (g : Sl → R (Option Int)) : Prop where
  run : ∀ (Hs H : Hp) (r : Sl) (σ : L2.St) (W : WX) (Q : Option Int → Hp → Prop), Takes X W → StRel E Hs H ks r σ → PostO E.cl Hs H Q (fun c dd H' => W c dd σ H') (g r) → WOx X e σ H Q
@[simp] def gNoPart : Sl → R (Option Int) := fun _ => .ok none
@[simp] def dPart : D → R (Option Int)
  | .int i => .ok (some i)
  | _ => .stuck
@[simp] def gPart (g : Sl → R D) : Sl → R (Option Int) := fun r => do
  let d ← g r
  dPart d
section
variable {X : Cx} {E : En} {ks : List Kd} {a e : Expr} {ga g : Sl → R D} {pos p2 : Pos} {lo hi : Option Expr} {gl gh : Sl → R (Option Int)}
theorem so_none : SO X E ks none gNoPart := ⟨fun Hs H r σ W Q tk S P => ⟨_, po_none, P Hs H (Grow.refl S.sub)⟩⟩
theorem so_some (h : SE X E ks .bor e g) : SO X E ks (some e) (gPart g) := by
  refine ⟨fun Hs H r σ W Q tk S P => ?_⟩
  refine ⟨_, po_some pe_we, ?_⟩
  refine h.run _ _ _ _ _ _ tk S ?_
  unfold gPart at P
  cases q : g r with
  | stuck => rw [q] at P; exact P
  | exc x => rw [q] at P; exact P
  | ok d =>
    rw [q] at P
    intro v Hs' H' g1 k1
    cases d <;> first | exact False.elim P | skip
    cases k1.rb.intInv
    exact ⟨_, rfl, P Hs' H' g1⟩
@[simp] def dSlL (d : D) (lo hi : Option Int) : R D := match d with
  | .lst ds => .ok (.lst (cutL ds lo hi))
  | .tup ds => .ok (.tup (cutL ds lo hi))
  | .str x => if x.length ≤ szL then .ok (.str (cutS x lo hi)) else .stuck
  | _ => .stuck
theorem cutL_whole {α : Type} {xs : List α} {lo hi : Option Int} (h : HT.sIx xs.length 0 lo = 0 ∧ HT.sIx xs.length xs.length hi = xs.length) : cutL xs lo hi = xs := by
  unfold cutL
  rw [h.1, h.2, List.drop_zero, Nat.sub_zero, List.take_length]
@[simp] def gSl (ga : Sl → R D) (gl gh : Sl → R (Option Int)) : Sl → R D := fun r => do
  let d ← ga r
  let l ← gl r
  let h ← gh r
  dSlL d l h
theorem se_slL (ha : SE X E ks .bor a ga) (hl : SO X E ks lo gl) (hh : SO X E ks hi gh) : SE X E ks (.own none) (.Subscript a (.Slice lo hi none p2) pos) (gSl ga gl gh) := by
  refine ⟨fun Hs H r σ W Q tk S P => ?_⟩
  refine we_of (pe_slice ((sl_list.or sl_tupA).or sl_str) pe_we po_wo po_wo) ?_
  refine ha.run _ _ _ _ _ _ tk S (Post.imp (F := fun d => gl r >>= fun l => gh r >>= fun h => dSlL d l h) P fun d v Hs1 H1 e1 g1 k1 P1 => ?_)
  refine hl.run _ _ _ _ _ _ tk (S.grow g1) ?_
  cases q : gl r with
  | stuck => rw [q] at P1; exact P1
  | exc x => rw [q] at P1; exact P1
  | ok l =>
    rw [q] at P1
    intro Hs2 H2 g2
    refine hh.run _ _ _ _ _ _ tk ((S.grow g1).grow g2) ?_
    have P2 : Post E.cl (.own none) Hs2 H2 Q (fun c dd H' => W c dd σ H') (gh r >>= fun h => dSlL d l h) := Post.grow (r := gh r >>= fun h => dSlL d l h) P1 g2
    cases q2 : gh r with
    | stuck => rw [q2] at P2; exact P2
    | exc x => rw [q2] at P2; exact P2
    | ok h =>
      rw [q2] at P2
      intro Hs3 H3 g3
      have P3 : Post E.cl (.own none) Hs3 H3 Q (fun c dd H' => W c dd σ H') (dSlL d l h) := Post.grow (r := dSlL d l h) P2 g3
      cases d <;> first | exact P3.elim | skip
      · cases ((k1.rb.grow g2).grow g3).strInv
        dsimp only [dSlL] at P3
        split at P3
        · rename_i hz
          exact .inr ⟨_, rfl, by rw [szL_eq]; exact hz, P3.fin g3.sub rfl (.str _)⟩
        · exact P3.elim
      · obtain ⟨p, xs, rfl, h1, r1⟩ := ((k1.rb.grow g2).grow g3).lstInv g3.sub
        exact .inl (.inl ⟨p, xs, rfl, SqL.of h1, fun q hq => P3.finL g3.sub hq (cut_rep r1)⟩)
      · have b1 := (k1.rb.grow g2).grow g3
        have b1' := b1
        obtain ⟨p, xs, rfl, h1, r1⟩ := b1.tupInv g3.sub
        refine .inl (.inr ⟨p, xs, rfl, SqT.of h1, fun z => ?_, fun _ q hq => ?_⟩)
        · rw [r1.length] at z
          dsimp only [dSlL] at P3
          rw [cutL_whole z] at P3
          cases b1' with
          | val rr => exact P3.fin g3.sub rfl rr
        · exact P3 _ _ _ (Grow.new g3.sub hq) (RK.ownPlain rfl (.tup upd_same (RepL.same (Same.updNew (g3.sub.free hq)) _ _ (cut_rep r1))))
end
end VL
end

noncomputable section
namespace VL
open PySem PySem.Spec PyProof.Rows L2
variable {md : Md}

/-- how an argument lies: stable, or borrowed -/
inductive RAs (cl : Cl) (Hs H : Hp) : List Bool → List D → List V → Prop
  | nil : RAs cl Hs H [] [] []
  | val {d : D} {v : V} {bs : List Bool} {ds : List D} {vs : List V} : Rep cl Hs d v → RAs cl Hs H bs ds vs → RAs cl Hs H (true :: bs) (d :: ds) (v :: vs)
  | bor {d : D} {v : V} {bs : List Bool} {ds : List D} {vs : List V} : RB cl Hs H d v → RAs cl Hs H bs ds vs → RAs cl Hs H (false :: bs) (d :: ds) (v :: vs)
theorem RAs.grow {cl : Cl} {Hs H Hs' H' : Hp} (g : Grow Hs H Hs' H') : ∀ {bs : List Bool} {ds : List D} {vs : List V}, RAs cl Hs H bs ds vs → RAs cl Hs' H' bs ds vs
  | _, _, _, .nil => .nil
  | _, _, _, .val r t => .val (Rep.same g.s _ _ r) (RAs.grow g t)
  | _, _, _, .bor r t => .bor (r.grow g) (RAs.grow g t)
theorem RAs.len {cl : Cl} {Hs H : Hp} : ∀ {bs : List Bool} {ds : List D} {vs : List V}, RAs cl Hs H bs ds vs → vs.length = bs.length ∧ ds.length = bs.length
  | _, _, _, .nil => ⟨rfl, rfl⟩
  | _, _, _, .val r t => by simp [RAs.len t]
  | _, _, _, .bor r t => by simp [RAs.len t]
theorem RAs.reps {cl : Cl} {Hs H : Hp} : ∀ {n : Nat} {ds : List D} {vs : List V}, RAs cl Hs H (List.replicate n true) ds vs → RepL cl Hs ds vs
  | 0, _, _, h => by cases h; exact .nil
  | n + 1, _, _, h => by
    rw [List.replicate_succ] at h
    cases h with
    | val r t => exact .cons r (RAs.reps t)
def PostA (cl : Cl) (bs : List Bool) (Hs H : Hp) (Q : List V → Hp → Prop) (W : WX0) : R (List D) → Prop
  | .stuck => False
  | .exc x => ∀ c dd Hs' H', Grow Hs H Hs' H' → XRep cl Hs' H' x c dd → W c dd H'
  | .ok ds => ∀ vs Hs' H', Grow Hs H Hs' H' → RAs cl Hs' H' bs ds vs → Q vs H'
theorem PostA.grow {cl : Cl} {bs : List Bool} {Hs H Hs' H' : Hp} {Q : List V → Hp → Prop} {W : WX0} {r : R (List D)} (P : PostA cl bs Hs H Q W r) (g : Grow Hs H Hs' H') : PostA cl bs Hs' H' Q W r := by
  cases r with
  | stuck => exact P
  | exc x => exact fun c dd Hs2 H2 g2 x2 => P c dd Hs2 H2 (g.trans g2) x2
  | ok d => exact fun vs Hs2 H2 g2 => P vs Hs2 H2 (g.trans g2)
structure SA [md : Md] (X : Cx) (E : En) (ks : List Kd) (bs : List Bool) (es : List Expr) (g : Sl → R (List D)) : Prop where
  run : ∀ (Hs H : Hp) (r : Sl) (σ : L2.St) (W : WX) (Q : List V → Hp → Prop), Takes X W → StRel E Hs H ks r σ → PostA E.cl bs Hs H Q (fun c dd H' => W c dd σ H') (g r) → WAx X es σ H Q
@[simp] def gNil : Sl → R (List D) := fun _ => .ok []
@[simp] def gCons (g : Sl → R D) (t : Sl → R (List D)) : Sl → R (List D) := fun r => do
  let d ← g r
  let ds ← t r
  .ok (d :: ds)
/-- from an argument list to what is made of it -/
theorem PostA.of {cl : Cl} {k : Kd} {bs : List Bool} {Hs H : Hp} {Q : VK} {W : WX0} {r : R (List D)} {f : List D → R D} {Q1 : List V → Hp → Prop} (P : Post cl k Hs H Q W (r >>= f))
    (h : ∀ ds vs Hs' H', r = .ok ds → Grow Hs H Hs' H' → RAs cl Hs' H' bs ds vs → Post cl k Hs' H' Q W (f ds) → Q1 vs H') : PostA cl bs Hs H Q1 W r := by
  cases r with
  | stuck => exact P
  | exc x => exact P
  | ok ds => exact fun vs Hs' H' g a => h ds vs Hs' H' rfl g a (Post.grow (r := f ds) P g)
section
variable {X : Cx} {E : En} {ks : List Kd} {e : Expr} {es : List Expr} {g : Sl → R D} {t : Sl → R (List D)} {bs : List Bool} {pos : Pos}
theorem sa_nil : SA X E ks [] [] gNil := ⟨fun Hs H r σ W Q tk S P => wa_of pa_nil (P [] Hs H (Grow.refl S.sub) .nil)⟩
theorem sa_cons_core {k : Kd} {b : Bool} (he : SE X E ks k e g) (ht : SA X E ks bs es t) (hs : starEach (e :: es) X.env = (false, eval e X.env) :: starEach es X.env)
    (mk : ∀ {cl Hs H H0 d v ds vs}, RK cl k H0 Hs H d v → RAs cl Hs H bs ds vs → RAs cl Hs H (b :: bs) (d :: ds) (v :: vs))
    (gr : ∀ {cl : Cl} {Hs H Hs' H' H0 : Hp} {d : D} {v : V}, RK cl k H0 Hs H d v → Grow Hs H Hs' H' → RK cl k H0 Hs' H' d v) : SA X E ks (b :: bs) (e :: es) (gCons g t) := by
  refine ⟨fun Hs H r σ W Q tk S P => ?_⟩
  refine wa_of (pa_cons pe_we pa_wa hs) ?_
  refine he.run _ _ _ _ _ _ tk S ?_
  unfold gCons at P
  cases q : g r with
  | stuck => rw [q] at P; exact P
  | exc x => rw [q] at P; exact P
  | ok d =>
    rw [q] at P
    intro v Hs1 H1 g1 k1
    refine ht.run _ _ _ _ _ _ tk (S.grow g1) ?_
    have P1 := PostA.grow (r := t r >>= fun ds => R.ok (d :: ds)) P g1
    cases q2 : t r with
    | stuck => rw [q2] at P1; exact P1
    | exc x => rw [q2] at P1; exact P1
    | ok ds =>
      rw [q2] at P1
      exact fun vs Hs2 H2 g2 a2 => P1 _ Hs2 H2 g2 (mk (gr k1 g2) a2)
theorem sa_v (he : SE X E ks .val e g) (ht : SA X E ks bs es t) (hs : starEach (e :: es) X.env = (false, eval e X.env) :: starEach es X.env := by rfl) : SA X E ks (true :: bs) (e :: es) (gCons g t) :=
  sa_cons_core he ht hs (fun k a => .val k.rep a) fun k g => RK.val (Rep.same g.s _ _ k.rep)
theorem sa_b (he : SE X E ks .bor e g) (ht : SA X E ks bs es t) (hs : starEach (e :: es) X.env = (false, eval e X.env) :: starEach es X.env := by rfl) : SA X E ks (false :: bs) (e :: es) (gCons g t) :=
  sa_cons_core he ht hs (fun k a => .bor k.rb a) fun k g => (k.rb.grow g).rk

@[simp] def gLst (t : Sl → R (List D)) : Sl → R D := fun r => do
  let ds ← t r
  if ds.length ≤ szL then .ok (.lst ds) else .stuck
@[simp] def gTup (t : Sl → R (List D)) : Sl → R D := fun r => do
  let ds ← t r
  if ds.length ≤ szL then .ok (.tup ds) else .stuck
theorem se_lst {n : Nat} (h : SA X E ks (List.replicate n true) es t) : SE X E ks (.own none) (.List es pos) (gLst t) := by
  refine ⟨fun Hs H r σ W Q tk S P => ?_⟩
  refine we_of (pe_lst pa_wa) ?_
  refine h.run _ _ _ _ _ _ tk S (PostA.of P fun ds vs Hs' H' e1 g1 a P1 => ?_)
  have rp := a.reps
  split at P1
  · rename_i z
    exact ⟨by rw [szL_eq, rp.length]; exact z, fun p hp => P1.finL g1.sub hp rp⟩
  · exact P1.elim
theorem se_tup {n : Nat} {x1 : Nat} (h : SA X E ks (List.replicate n true) es t) : SE X E ks .val (.Tuple es x1 pos) (gTup t) := by
  refine ⟨fun Hs H r σ W Q tk S P => ?_⟩
  refine we_of (pe_tup pa_wa) ?_
  refine h.run _ _ _ _ _ _ tk S (PostA.of P fun ds vs Hs' H' e1 g1 a P1 => ?_)
  have rp := a.reps
  split at P1
  · rename_i z
    refine ⟨by rw [szL_eq, rp.length]; exact z, fun p hp => ?_⟩
    exact P1 _ _ _ (Grow.new g1.sub hp) (RK.val (.tup upd_same (RepL.same (Same.updNew (g1.sub.free hp)) _ _ rp)))
  · exact P1.elim

def CallV (K : PySem.W.Frag) (rr : List V → Hp → VK → Prop) (k : Kd) (bs : List Bool) (f : List D → R D) : Prop :=
  ∀ (cl : Cl) (Hs H : Hp) (ds : List D) (vs : List V) (Q : VK) (W : WX0), Same Hs H → RAs cl Hs H bs ds vs → Post cl k Hs H Q W (f ds) → rr vs H Q
@[simp] def gCall (f : List D → R D) (t : Sl → R (List D)) : Sl → R D := fun r => do
  let ds ← t r
  f ds
theorem se_callB {id : String} {x : Str} {p : Pos} {rr : List V → Hp → VK → Prop} {k : Kd} {f : List D → R D} (hc : CallR X (.builtin id) rr) (hv : CallV X.K rr k bs f) (hm : X.mg x = none) (hb : bootBuiltins x = some (.builtin id)) (ha : SA X E ks bs (e :: es) t)
    (hg : Gl X x := by rfl) (hn : x ≠ "__name__" := by decide) (hdb : (x == ("__debug__" : Str)) = false := by decide)
    (he : starEach (e :: es) X.env = (false, eval e X.env) :: starEach es X.env := by rfl) (hpl : (backTo pos (starEach es X.env)).any (·.1) = false := by rfl) : SE X E ks k (.Call (.Name x p) (e :: es) [] pos) (gCall f t) := by
  refine ⟨fun Hs H r σ W Q tk S P => ?_⟩
  refine we_of (pe_callB hc hg hm hb pa_wa hn hdb he hpl) ?_
  exact ha.run _ _ _ _ _ _ tk S (PostA.of P fun ds vs Hs' H' e1 g1 a P1 => hv _ _ _ _ _ _ _ g1.sub a P1)
theorem se_callTy {T : String} {x : Str} {p : Pos} {rr : List V → Hp → VK → Prop} {k : Kd} {f : List D → R D} (hc : CallR X (.type T) rr) (hv : CallV X.K rr k bs f) (hm : X.mg x = none) (hb : bootBuiltins x = some (.type T)) (ha : SA X E ks bs (e :: es) t)
    (hg : Gl X x := by rfl) (hn : x ≠ "__name__" := by decide) (hdb : (x == ("__debug__" : Str)) = false := by decide)
    (he : starEach (e :: es) X.env = (false, eval e X.env) :: starEach es X.env := by rfl) (hpl : (backTo pos (starEach es X.env)).any (·.1) = false := by rfl) : SE X E ks k (.Call (.Name x p) (e :: es) [] pos) (gCall f t) := by
  refine ⟨fun Hs H r σ W Q tk S P => ?_⟩
  refine we_of (pe_callTy hc hg hm hb pa_wa hn hdb he hpl) ?_
  exact ha.run _ _ _ _ _ _ tk S (PostA.of P fun ds vs Hs' H' e1 g1 a P1 => hv _ _ _ _ _ _ _ g1.sub a P1)
end

@[simp] def fLen : List D → R D
  | [.lst ds] => .ok (.int ds.length)
  | [.tup ds] => .ok (.int ds.length)
  | [.str x] => if x.length ≤ szL then .ok (.int x.length) else .stuck
  | [.dct ds] => .ok (.int ds.length)
  | _ => .stuck
theorem RAs.one {cl : Cl} {Hs H : Hp} {ds : List D} {vs : List V} (h : RAs cl Hs H [false] ds vs) : ∃ d v, ds = [d] ∧ vs = [v] ∧ RB cl Hs H d v := by
  cases h with
  | bor r t => cases t; exact ⟨_, _, rfl, rfl, r⟩
theorem RAs.two {cl : Cl} {Hs H : Hp} {ds : List D} {vs : List V} (h : RAs cl Hs H [false, false] ds vs) : ∃ d v d' v', ds = [d, d'] ∧ vs = [v, v'] ∧ RB cl Hs H d v ∧ RB cl Hs H d' v' := by
  cases h with
  | bor r t =>
    obtain ⟨d, v, rfl, rfl, r'⟩ := t.one
    exact ⟨_, _, _, _, rfl, rfl, r, r'⟩
theorem RepK.length {cl : Cl} {H : Hp} : ∀ {ds : List (Key × D)} {vs : List (Key × V)}, RepK cl H ds vs → vs.length = ds.length
  | [], _, h => by cases h; rfl
  | (k, d) :: ds, _, h => by
    cases h with
    | cons h1 h2 => rw [List.length_cons, List.length_cons, RepK.length h2]
theorem call_lenR {X : Cx} : CallR X (.builtin "len") (fun xs H Q => ∃ a kvs, xs = [V.ref a] ∧ Rd H a (.dK kvs) ∧ Q (.int kvs.length) H) := by
  intro pins s σ H xs us Q I r h
  obtain ⟨a, kvs, rfl, ha, q⟩ := h
  obtain ⟨u, rfl, ru⟩ := vals1 r
  cases ru
  exact d_len I ha fun t s' I' => ⟨.int kvs.length, H, I', ⟨t, rfl⟩, q⟩
theorem callv_len {X : Cx} : CallV X.K (fun xs H Q => (∃ x n, xs = [x] ∧ LenV X.K x H n ∧ Q (.int n) H) ∨ (∃ a kvs, xs = [V.ref a] ∧ Rd H a (.dK kvs) ∧ Q (.int kvs.length) H)) .val [false] fLen := by
  intro cl Hs H ds vs Q W e a P
  obtain ⟨d, v, rfl, rfl, r⟩ := a.one
  cases d <;> first | exact P.elim | skip
  · cases r.strInv
    dsimp only [fLen] at P
    split at P
    · rename_i h
      exact .inl ⟨_, _, rfl, ⟨by rw [szL_eq]; exact h, rfl⟩, P.finV e (.int _)⟩
    · exact P.elim
  · obtain ⟨p, xs, rfl, h1, r1⟩ := r.lstInv e
    refine .inl ⟨_, xs.length, rfl, .inl ⟨xs, SqL.of h1, rfl⟩, ?_⟩
    rw [r1.length]
    exact P.finV e (.int _)
  · obtain ⟨p, xs, rfl, h1, r1⟩ := r.tupInv e
    refine .inl ⟨_, xs.length, rfl, .inr ⟨xs, SqT.of h1, rfl⟩, ?_⟩
    rw [r1.length]
    exact P.finV e (.int _)
  · obtain ⟨p, xs, rfl, h1, r1⟩ := r.dctInv e
    refine .inr ⟨p, xs, rfl, h1, ?_⟩
    rw [r1.length]
    exact P.finV e (.int _)
@[simp] def fMin2 : List D → R D
  | [.int i, .int j] => .ok (.int (if j < i then j else i))
  | _ => .stuck
@[simp] def fMax2 : List D → R D
  | [.int i, .int j] => .ok (.int (if j > i then j else i))
  | _ => .stuck
@[simp] def fInt : List D → R D
  | [.int i] => .ok (.int i)
  | [.bl k] => .ok (.int (if k then 1 else 0))
  | [.str x] => if x.length ≤ 640 then (match PySem.intText? x with
    | some n => .ok (.int n)
    | none => .stuck) else .stuck
  | _ => .stuck
theorem callv_min2 {X : Cx} : CallV X.K (fun xs H Q => ∃ i j, xs = [.int i, .int j] ∧ Q (.int (if j < i then j else i)) H) .val [false, false] fMin2 := by
  intro cl Hs H ds vs Q W e a P
  obtain ⟨d, v, d', v', rfl, rfl, r, r'⟩ := a.two
  cases d <;> cases d' <;> first | exact P.elim | skip
  cases r.intInv
  cases r'.intInv
  exact ⟨_, _, rfl, P.finV e (.int _)⟩
theorem callv_max2 {X : Cx} : CallV X.K (fun xs H Q => ∃ i j, xs = [.int i, .int j] ∧ Q (.int (if j > i then j else i)) H) .val [false, false] fMax2 := by
  intro cl Hs H ds vs Q W e a P
  obtain ⟨d, v, d', v', rfl, rfl, r, r'⟩ := a.two
  cases d <;> cases d' <;> first | exact P.elim | skip
  cases r.intInv
  cases r'.intInv
  exact ⟨_, _, rfl, P.finV e (.int _)⟩
theorem callv_int {X : Cx} : CallV X.K (fun xs H Q => ((∃ i, xs = [.int i] ∧ Q (.int i) H) ∨ ∃ k, xs = [.bl k] ∧ Q (.int (if k then 1 else 0)) H) ∨ ∃ a n, xs = [.str a] ∧ PySem.intText? a = some n ∧ a.length ≤ 640 ∧ Q (.int n) H) .val [false] fInt := by
  intro cl Hs H ds vs Q W e a P
  obtain ⟨d, v, rfl, rfl, r⟩ := a.one
  cases d <;> first | exact P.elim | skip
  · cases r.blInv
    exact .inl (.inr ⟨_, rfl, P.finV e (.int _)⟩)
  · cases r.intInv
    exact .inl (.inl ⟨_, rfl, P.finV e (.int _)⟩)
  · cases r.strInv
    dsimp only [fInt] at P
    split at P
    · rename_i h
      split at P
      · rename_i n q
        exact .inr ⟨_, n, rfl, q, h, P.finV e (.int _)⟩
      · exact P.elim
    · exact P.elim
/-- a list of whole numbers -/
def intsOf : List D → Option (List Int)
  | [] => some []
  | .int i :: r => (intsOf r).map (i :: ·)
  | _ :: _ => none
theorem intsOf_map (ns : List Int) : intsOf (ns.map D.int) = some ns := by
  induction ns with
  | nil => rfl
  | cons n ns ih => rw [List.map_cons, intsOf, ih]; rfl
theorem intsOf_eq : ∀ {ds : List D} {ns : List Int}, intsOf ds = some ns → ds = ns.map D.int
  | [], _, h => by cases h; rfl
  | d :: r, _, h => by
    cases d <;> first | cases h | skip
    rename_i i
    dsimp only [intsOf] at h
    cases q : intsOf r with
    | none => rw [q] at h; cases h
    | some ms =>
      rw [q] at h
      cases h
      rw [intsOf_eq q]
      rfl
def fSum : List D → R D
  | [.lst ds] => match intsOf ds with
    | some ns => .ok (.int ns.sum)
    | none => .stuck
  | _ => .stuck
def lmax : List Int → Int
  | [] => 0
  | [x] => x
  | x :: y :: r => max x (lmax (y :: r))
def lmin : List Int → Int
  | [] => 0
  | [x] => x
  | x :: y :: r => min x (lmin (y :: r))
theorem lmax_of : ∀ {ns : List Int} {m : Int}, m ∈ ns → (∀ y, y ∈ ns → y ≤ m) → m = lmax ns
  | [], _, h, _ => by cases h
  | [x], m, h, _ => by simpa [lmax] using h
  | x :: y :: r, m, h, k => by
    have hx : x ≤ m := k x (by simp)
    unfold lmax
    rcases List.mem_cons.mp h with e | h
    · subst e
      have : lmax (y :: r) ≤ m := by
        clear h
        have key : ∀ (l : List Int), l ≠ [] → (∀ z ∈ l, z ≤ m) → lmax l ≤ m := by
          intro l
          induction l with
          | nil => intro h; exact absurd rfl h
          | cons a t ih =>
            intro _ hz
            cases t with
            | nil => exact hz a (by simp)
            | cons b t =>
              unfold lmax
              have h1 := hz a (by simp)
              have h2 := ih (by simp) fun z hz' => hz z (List.mem_cons_of_mem _ hz')
              omega
        exact key _ (by simp) fun z hz => k z (List.mem_cons_of_mem _ hz)
      omega
    · have e := lmax_of h fun z hz => k z (List.mem_cons_of_mem _ hz)
      omega
theorem lmin_of : ∀ {ns : List Int} {m : Int}, m ∈ ns → (∀ y, y ∈ ns → m ≤ y) → m = lmin ns
  | [], _, h, _ => by cases h
  | [x], m, h, _ => by simpa [lmin] using h
  | x :: y :: r, m, h, k => by
    have hx : m ≤ x := k x (by simp)
    unfold lmin
    rcases List.mem_cons.mp h with e | h
    · subst e
      have : m ≤ lmin (y :: r) := by
        clear h
        have key : ∀ (l : List Int), l ≠ [] → (∀ z ∈ l, m ≤ z) → m ≤ lmin l := by
          intro l
          induction l with
          | nil => intro h; exact absurd rfl h
          | cons a t ih =>
            intro _ hz
            cases t with
            | nil => exact hz a (by simp)
            | cons b t =>
              unfold lmin
              have h1 := hz a (by simp)
              have h2 := ih (by simp) fun z hz' => hz z (List.mem_cons_of_mem _ hz')
              omega
        exact key _ (by simp) fun z hz => k z (List.mem_cons_of_mem _ hz)
      omega
    · have e := lmin_of h fun z hz => k z (List.mem_cons_of_mem _ hz)
      omega
def fMax1 : List D → R D
  | [.lst ds] => match intsOf ds with
    | some ns => if ns = [] then .stuck else .ok (.int (lmax ns))
    | none => .stuck
  | _ => .stuck
def fMin1 : List D → R D
  | [.lst ds] => match intsOf ds with
    | some ns => if ns = [] then .stuck else .ok (.int (lmin ns))
    | none => .stuck
  | _ => .stuck
theorem RB.intsInv {cl : Cl} {Hs H : Hp} {ds : List D} {ns : List Int} {v : V} (h : RB cl Hs H (.lst ds) v) (e : Same Hs H) (q : intsOf ds = some ns) : ∃ a, v = .ref a ∧ H a = some (.lst (ns.map V.int)) := by
  obtain ⟨p, xs, rfl, h1, r1⟩ := h.lstInv e
  rw [intsOf_eq q] at r1
  rw [r1.ints] at h1
  exact ⟨p, rfl, h1⟩
theorem callv_sum {X : Cx} : CallV X.K (rSum X.K) .val [false] fSum := by
  intro cl Hs H ds vs Q W e a P
  obtain ⟨d, v, rfl, rfl, r⟩ := a.one
  cases d <;> first | exact P.elim | skip
  dsimp only [fSum] at P
  split at P
  · rename_i ns q
    obtain ⟨p, rfl, h1⟩ := r.intsInv e q
    exact ⟨p, ns, rfl, SqL.of h1, P.finV e (.int _)⟩
  · exact P.elim
theorem callv_max1 {X : Cx} : CallV X.K (rMax X.K) .val [false] fMax1 := by
  intro cl Hs H ds vs Q W e a P
  obtain ⟨d, v, rfl, rfl, r⟩ := a.one
  cases d <;> first | exact P.elim | skip
  dsimp only [fMax1] at P
  split at P
  · rename_i ns q
    split at P
    · exact P.elim
    · rename_i hn
      obtain ⟨p, rfl, h1⟩ := r.intsInv e q
      refine ⟨p, ns, rfl, SqL.of h1, List.length_pos_iff.mpr hn, fun m hm hle => ?_⟩
      rw [lmax_of hm hle]
      exact P.finV e (.int _)
  · exact P.elim
theorem callv_min1 {X : Cx} : CallV X.K (rMin X.K) .val [false] fMin1 := by
  intro cl Hs H ds vs Q W e a P
  obtain ⟨d, v, rfl, rfl, r⟩ := a.one
  cases d <;> first | exact P.elim | skip
  dsimp only [fMin1] at P
  split at P
  · rename_i ns q
    split at P
    · exact P.elim
    · rename_i hn
      obtain ⟨p, rfl, h1⟩ := r.intsInv e q
      refine ⟨p, ns, rfl, SqL.of h1, List.length_pos_iff.mpr hn, fun m hm hle => ?_⟩
      rw [lmin_of hm hle]
      exact P.finV e (.int _)
  · exact P.elim
@[simp] def fList : List D → R D
  | [.lst ds] => .ok (.lst ds)
  | [.tup ds] => .ok (.lst ds)
  | _ => .stuck
theorem callv_list {X : Cx} : CallV X.K (fun xs H Q => ∃ p ys, xs = [.ref p] ∧ (SqL X.K H p ys ∨ SqT X.K H p ys) ∧ ∀ l, H l = none → Q (.ref l) (upd H l (.lst ys))) (.own none) [false] fList := by
  intro cl Hs H ds vs Q W e a P
  obtain ⟨d, v, rfl, rfl, r⟩ := a.one
  cases d <;> first | exact P.elim | skip
  · obtain ⟨p, xs, rfl, h1, r1⟩ := r.lstInv e
    exact ⟨p, xs, rfl, .inl (SqL.of h1), fun l hl => P.finL e hl r1⟩
  · obtain ⟨p, xs, rfl, h1, r1⟩ := r.tupInv e
    exact ⟨p, xs, rfl, .inr (SqT.of h1), fun l hl => P.finL e hl r1⟩
end VL
end

noncomputable section
namespace VL
open PySem PySem.Spec PyProof.Rows L2
variable {md : Md}

theorem turn_longrange {P : Program} {w : World} {K : PySem.W.Frag} {tg : Expr} (it : Addr) (lo : Int) (n : Nat) : Turn P w K tg (Itr lo n) [it] it (fun i h => IsLongIter h it (lo + (i : Nat) * 1) ((n : Int) - (i : Nat)) 1) where
  mem := by simp
  obj := fun i h st b hb => by
    have e : b = it := by simpa using hb
    subst e
    exact ⟨_, st, fun v z => by
      have z' : Data.fields _ = Data.cell v := z
      cases z'⟩
  keep := fun i h h' st k => k it (by simp) _ st
  item := by
    intro X hP hw hK hc i pins s σ H E I hf st hg
    subst hP hw hK
    obtain ⟨f0, f1, f2, f3, f4, f5⟩ := hf it (by simp)
    have W := Walks.longrange (prog := X.prog) (w := X.w) (I.ok.hd hc) it lo 1 n
    refine W.item i s _ _ hg st fun v h' tk hv st' kk => ?_
    obtain ⟨t, rfl⟩ := hv
    have I1 : Inv X pins σ H { s with heap := h', toks := tk } := I.turned (fun b o hb e => kk b o (by simpa using hb) e) f0 f1 f3 f4 f5
    refine ⟨_, rfl, go_of (s := { s with heap := h', toks := tk }) (n := "longrange_iterator") st' rfl rfl (by decide) ⟨.int (lo + i), H, I1, ⟨t, ?_⟩, ⟨rfl, rfl⟩, st', fun b hb => (hf b hb).1⟩⟩
    rw [Int.mul_one]
  done := by
    intro X hP hw hK hc i pins s σ H E I hf st hg
    subst hP hw hK
    obtain ⟨f0, f1, f2, f3, f4, f5⟩ := hf it (by simp)
    exact wpAny_pyNext_long_end (I.ok.hd hc) st (by have : n ≤ i := hg; omega) fun h' eb => ⟨rfl, I.turned (t' := s.toks) (fun b o hb e => eb b o hb e) f0 f1 f3 f4 f5⟩
  self := fun _ _ _ _ _ st h => wpAny_pyIter_longiter st h
section
variable {X : Cx} {tg : Expr}
/-- a range object just made, walked, wherever its ends lie -/
theorem range_itA {pins : List (Addr × Obj)} {σ : L2.St} {H : Hp} {s : Shared} {R : It → Hp → Prop} {E : Value → Shared → Prop} {lo hi : Int} {t u v : Tok} {tk : Nat} (I : Inv X pins σ H s)
    (q : R (Itr lo (hi - lo).toNat) H) : wpAny (model X.prog X.w) X.A (pyIter (.ref s.heap.objs.size)) (PIE X pins σ tg R) E { s with heap := s.heap.push { cls := .type "range", data := .fields #[.int lo t, .int hi u, .int 1 v] }, toks := tk } := by
  have I1 : Inv X pins σ H { s with heap := s.heap.push { cls := .type "range", data := .fields #[.int lo t, .int hi u, .int 1 v] }, toks := tk } := I.kept fun b o e => Heap.get?_push_of_some _ e
  have e1 : lo + ((0 : Nat) : Int) * 1 = lo := by simp
  have e2 : (((hi - lo).toNat : Nat) : Int) - ((0 : Nat) : Int) = Builtin.Range.rangeSize lo hi 1 := by rw [rangeSize_one]; split <;> omega
  cases z : Builtin.Range.small lo hi 1 with
  | true =>
    refine wpAny_pyIter_range (IsRange.new ..) z ?_
    refine ⟨_, [_], _, _, H, rfl, I1.kept (t' := tk) fun b o e => Heap.get?_push_of_some _ e, turn_range _ lo (hi - lo).toNat, ?_, fun b hb => ?_, q⟩
    · show IsRangeIter _ _ (lo + ((0 : Nat) : Int) * 1) ((((hi - lo).toNat : Nat) : Int) - ((0 : Nat) : Int)) 1
      rw [e1, e2]
      exact Heap.get?_push_size _ rfl
    · have e := List.mem_singleton.mp hb
      subst e
      exact I1.fpOk (Nat.le_refl _) (I1.hok.fresh (Nat.le_refl _))
  | false =>
    refine wpAny_pyIter_longrange (IsRange.new ..) z ?_
    refine ⟨_, [_], _, _, H, rfl, I1.kept (t' := tk) fun b o e => Heap.get?_push_of_some _ e, turn_longrange _ lo (hi - lo).toNat, ?_, fun b hb => ?_, q⟩
    · show IsLongIter _ _ (lo + ((0 : Nat) : Int) * 1) ((((hi - lo).toNat : Nat) : Int) - ((0 : Nat) : Int)) 1
      rw [e1, e2]
      exact Heap.get?_push_size _ rfl
    · have e := List.mem_singleton.mp hb
      subst e
      exact I1.fpOk (Nat.le_refl _) (I1.hok.fresh (Nat.le_refl _))
def iRngA1 (ta : TA) : TI := fun σ H R => ta σ H fun vs H1 => ∃ j : Int, vs = [.int j] ∧ R (Itr 0 j.toNat) H1
def iRngA2 (ta : TA) : TI := fun σ H R => ta σ H fun vs H1 => ∃ i j : Int, vs = [.int i, .int j] ∧ R (Itr i (j - i).toNat) H1
theorem pi_rangeA1 {a : Expr} {ta : TA} {p pos : Pos} (hg : Gl X "range") (hm : X.mg "range" = none) (ha : PA X [a] ta) (hs : starEach [a] X.env = [(false, eval a X.env)] := by rfl) : PI X tg (.Call (.Name "range" p) [a] [] pos) (iRngA1 ta) := by
  refine ⟨fun pins s σ H R I h => ?_⟩
  refine Call_ (ld_blt I hg hm boot_range (PyProof.Rows.callWith_type1 (thn (ha.run pos pins s σ H _ I h) fun us s1 ⟨vs, H1, I1, r1, q1⟩ => ?_) hs rfl))
  obtain ⟨j, e, q⟩ := q1
  subst e
  cases r1 with
  | cons r rr =>
    cases rr
    obtain ⟨t, rfl⟩ := r
    exact call_range_1 (range_itA I1 (by simpa using q))
theorem pi_rangeA2 {a b : Expr} {ta : TA} {p pos : Pos} (hg : Gl X "range") (hm : X.mg "range" = none) (ha : PA X [a, b] ta) (hs : starEach [a, b] X.env = [(false, eval a X.env), (false, eval b X.env)] := by rfl) (hs2 : starEach [b] X.env = [(false, eval b X.env)] := by rfl) :
    PI X tg (.Call (.Name "range" p) [a, b] [] pos) (iRngA2 ta) := by
  refine ⟨fun pins s σ H R I h => ?_⟩
  refine Call_ (ld_blt I hg hm boot_range (PyProof.Rows.callWith_type1 (thn (ha.run pos pins s σ H _ I h) fun us s1 ⟨vs, H1, I1, r1, q1⟩ => ?_) (by rw [hs, hs2]) (by rw [hs2]; rfl)))
  obtain ⟨i, j, e, q⟩ := q1
  subst e
  cases r1 with
  | cons r rr =>
    cases rr with
    | cons r' rr =>
      cases rr
      obtain ⟨t, rfl⟩ := r
      obtain ⟨t', rfl⟩ := r'
      exact call_range_2 (range_itA I1 q)
end

def setV (σ : L2.St) : List Nat → List V → L2.St
  | i :: is, v :: vs => setV (σ.set i (some v)) is vs
  | _, _ => σ
@[simp] def setD (r : Sl) : List Nat → List D → Sl
  | i :: is, d :: ds => setD (r.set i (some d)) is ds
  | _, _ => r
def setK (ks : List Kd) : List Nat → List Kd
  | i :: is => setK (ks.set i .val) is
  | [] => ks
inductive Tg where
  | one (i : Nat)
  | tup (is : List Nat)
@[simp] def Tg.is : Tg → List Nat
  | .one i => [i]
  | .tup is => is
@[simp] def Tg.un : Tg → D → R (List D)
  | .one _, d => .ok [d]
  | .tup is, .tup ds => if ds.length = is.length then .ok ds else .stuck
  | .tup _, _ => .stuck
def WGx (X : Cx) (tg : Expr) : TG := fun v σ H Q => ∃ t, PG X tg t ∧ t v σ H Q
theorem pg_wg {X : Cx} {tg : Expr} : PG X tg (WGx X tg) := ⟨fun pins s σ H v u Q I r ⟨t, p, h⟩ => p.run pins s σ H v u Q I r h⟩
structure SG (X : Cx) (tg : Expr) (t : Tg) : Prop where
  run : ∀ (cl : Cl) (Hs H : Hp) (σ : L2.St) (d : D) (v : V) (ds : List D) (Q : L2.St → Hp → Prop), Same Hs H → Rep cl Hs d v → t.un d = .ok ds → (∀ vs, RepL cl Hs ds vs → Q (setV σ t.is vs) H) → WGx X tg v σ H Q
section
variable {X : Cx} {pos : Pos}
theorem sg_name {i : Nat} {x : Str} (hN : X.N.Nodup) (hi : X.N[i]? = some x := by rfl) (hx : Loc X.env.scope x := by first | exact Or.inl rfl | exact Or.inr rfl)
    (hf : X.fn x = true ∨ X.env.scope.names.lookup x = some .local := by first | exact .inl rfl | exact .inr rfl | assumption) : SG X (.Name x pos) (.one i) := by
  refine ⟨fun cl Hs H σ d v ds Q e r h q => ?_⟩
  cases h
  exact ⟨_, pg_name hN hi hx hf, q [v] (.cons r .nil)⟩
def gsN : List Nat → TGs
  | [] => L2.gNil
  | i :: is => L2.gCons (gName i) (gsN is)
theorem gsN_read : ∀ {is : List Nat} {vs : List V} {σ : L2.St} {H : Hp} {Q : L2.St → Hp → Prop}, vs.length = is.length → Q (setV σ is vs) H → gsN is vs σ H Q
  | [], [], _, _, _, _, q => ⟨rfl, q⟩
  | [], _ :: _, _, _, _, h, _ => by cases h
  | _ :: _, [], _, _, _, h, _ => by cases h
  | i :: is, v :: vs, σ, H, Q, h, q => ⟨v, vs, rfl, gsN_read (by simpa using h) q⟩
theorem sgs_nil : PGs X [] (gsN []) := pgs_nil
theorem sgs_cons {i : Nat} {x : Str} {es : List Expr} {is : List Nat} (hN : X.N.Nodup) (ht : PGs X es (gsN is)) (hi : X.N[i]? = some x := by rfl) (hx : Loc X.env.scope x := by first | exact Or.inl rfl | exact Or.inr rfl)
    (hf : X.fn x = true ∨ X.env.scope.names.lookup x = some .local := by first | exact .inl rfl | exact .inr rfl | assumption)
    (hs : (assignEach (.Name x pos :: es) X.env).map (·.2) = assign (.Name x pos) X.env :: (assignEach es X.env).map (·.2) := by rfl) : PGs X (.Name x pos :: es) (gsN (i :: is)) := pgs_cons (pg_name hN hi hx hf) ht hs
theorem sg_tup {es : List Expr} {is : List Nat} {k : Nat} (hc : X.calm = true) (h : PGs X es (gsN is)) (hn : (assignEach es X.env).length = is.length := by rfl) (hst : (assignEach es X.env).findIdx? (·.1) = none := by rfl) : SG X (.Tuple es k pos) (.tup is) := by
  refine ⟨fun cl Hs H σ d v ds Q e r hu q => ?_⟩
  cases d <;> first | (cases hu; done) | skip
  dsimp only [Tg.un] at hu
  split at hu
  · rename_i hl
    cases hu
    cases r with
    | tup h1 h2 => exact ⟨_, pg_tup hc h hn hst, _, _, rfl, SqT.of (e.at _ _ h1), by rw [h2.length]; exact hl, gsN_read (by rw [h2.length]; exact hl) (q _ h2)⟩
  · cases hu
end
section
variable {E : En} {Hs H : Hp} {ks : List Kd} {r : Sl} {σ : L2.St}
theorem StOk.put {As : List Addr} {i : Nat} {k : Kd} {d : D} {v : V} (S : StOk E Hs H ks r σ As) (hk : ks[i]? = some k) (rp : Rep E.cl Hs d v) : ∃ As', StOk E Hs H (ks.set i .val) (r.set i (some d)) (σ.set i (some v)) As' := by
  obtain ⟨pre, A, post, e, _, f, _, _⟩ := S.sl.at_ i hk
  have sub : (pre ++ ([] ++ post)).Sublist As := by
    rw [e]
    exact List.Sublist.append (List.Sublist.refl _) (by
      rw [List.nil_append]
      exact List.sublist_append_right _ _)
  exact ⟨_, f .val d v [] (.val rp), S.nd.sublist sub, fun a ha => S.dis a (sub.subset ha), S.es, S.sub, S.eb, S.new, S.dom, S.tb⟩
theorem StRel.put {i : Nat} {k : Kd} {d : D} {v : V} (S : StRel E Hs H ks r σ) (hk : ks[i]? = some k) (rp : Rep E.cl Hs d v) : StRel E Hs H (ks.set i .val) (r.set i (some d)) (σ.set i (some v)) :=
  let ⟨_, s⟩ := S
  s.put hk rp
theorem StRel.wipe1 {i : Nat} {k k' : Kd} (S : StRel E Hs H ks r σ) (hk : ks[i]? = some k) (x : Option V) : StRel E Hs H (ks.set i k') (r.set i none) (σ.set i x) := by
  obtain ⟨As, S⟩ := S
  obtain ⟨pre, A, post, e, _, _, f, _⟩ := S.sl.at_ i hk
  have sub : (pre ++ post).Sublist As := by
    rw [e]
    exact List.Sublist.append (List.Sublist.refl _) (List.sublist_append_right _ _)
  exact ⟨_, f k' x, S.nd.sublist sub, fun a ha => S.dis a (sub.subset ha), S.es, S.sub, S.eb, S.new, S.dom, S.tb⟩
theorem StRel.puts : ∀ {is : List Nat} {ks : List Kd} {r : Sl} {σ : L2.St} {ds : List D} {vs : List V}, StRel E Hs H ks r σ → (∀ i ∈ is, i < ks.length) → ds.length = is.length → RepL E.cl Hs ds vs → StRel E Hs H (setK ks is) (setD r is ds) (setV σ is vs)
  | [], _, _, _, [], _, S, _, _, rp => by cases rp; exact S
  | [], _, _, _, _ :: _, _, _, _, h, _ => by cases h
  | _ :: _, _, _, _, [], _, _, _, h, _ => by cases h
  | i :: is, ks, r, σ, d :: ds, _, S, hi, hl, rp => by
    cases rp with
    | cons r1 r2 =>
      have h0 := hi i List.mem_cons_self
      refine StRel.puts (is := is) (S.put (k := ks[i]) (by simp [h0]) r1) (fun j hj => ?_) (by simpa using hl) r2
      rw [List.length_set]
      exact hi j (List.mem_cons_of_mem _ hj)
end
theorem Tg.un_len {t : Tg} {d : D} {ds : List D} (h : t.un d = .ok ds) : ds.length = t.is.length := by
  cases t with
  | one i => cases h; rfl
  | tup is =>
    cases d <;> first | (cases h; done) | skip
    dsimp only [Tg.un] at h
    split at h
    · rename_i e
      cases h
      exact e
    · cases h

/-- all lists are within the line -/
def LenOk (H : Hp) : Prop := ∀ a xs, H a = some (.lst xs) → xs.length ≤ szL
def LenOkT (H : Hp) : Prop := ∀ a xs, H a = some (.tup xs) → xs.length ≤ szL
theorem Inv.lens {X : Cx} {pins : List (Addr × Obj)} {σ : L2.St} {H : Hp} {s : Shared} (I : Inv X pins σ H s) : LenOk H ∧ LenOkT H :=
  ⟨fun a xs e => by
    have q := (I.hok a _ e).1
    rw [szL_eq] at q
    exact q, fun a xs e => by
    have q := (I.hok a _ e).1
    rw [szL_eq] at q
    exact q⟩
theorem we_len {X : Cx} {e : Expr} {σ : L2.St} {H : Hp} {Q : VK} (h : WEx X e σ H fun v H' => LenOk H' ∧ LenOkT H' → Q v H') : WEx X e σ H Q := fun pins s I => thn (h pins s I) fun u s' ⟨v, H', I', r, q⟩ => ⟨v, H', I', r, q (VL.Inv.lens I')⟩
structure ItOk (cl : Cl) (J : It) (ds : List D) (Hs1 Bq : Hp) : Prop where
  len : ds.length ≤ szL
  go : ∀ Hs H, Same Hs1 Hs → Same Hs H → Same Bq H → ∀ i, i < ds.length → J.go i H
  stop : ∀ Hs H, Same Hs1 Hs → Same Hs H → Same Bq H → J.stop ds.length H
  yld : ∀ Hs H, Same Hs1 Hs → Same Hs H → Same Bq H → ∀ i d x H', ds[i]? = some d → J.yld i H x H' → ∃ Hs', Grow Hs H Hs' H' ∧ Rep cl Hs' d x
/-- what may be walked while others change: stable, or borrowed from the caller; md = false: while nothing is changed -/
inductive RQ (cl : Cl) (Hs Bq : Hp) : D → V → Prop
  | val {d : D} {v : V} : Rep cl Hs d v → RQ cl Hs Bq d v
  | lst {a : Addr} {ds : List D} {xs : List V} : Bq a = some (.lst xs) → RepL cl Hs ds xs → RQ cl Hs Bq (.lst ds) (.ref a)
  | dct {a : Addr} {ds : List (Key × D)} {xs : List (Key × V)} : Rd Bq a (.dK xs) → RepK cl Hs ds xs → RQ cl Hs Bq (.dct ds) (.ref a)
  | obj {C : Str} {ds : List (Str × D)} {v : V} : RQ cl Hs Bq (.obj C ds) v
def bq (E : En) (md : Bool) (H : Hp) : Hp := if md then E.b else H
def PostQ (E : En) (md : Bool) (Hs H : Hp) (Q : VK) (W : WX0) : R D → Prop
  | .stuck => False
  | .exc x => ∀ c dd Hs' H', Grow Hs H Hs' H' → XRep E.cl Hs' H' x c dd → W c dd H'
  | .ok d => ∀ v Hs' H', Grow Hs H Hs' H' → RQ E.cl Hs' (bq E md H') d v → Q v H'
theorem PostQ.grow {E : En} {md : Bool} {Hs H Hs' H' : Hp} {Q : VK} {W : WX0} {r : R D} (P : PostQ E md Hs H Q W r) (g : Grow Hs H Hs' H') : PostQ E md Hs' H' Q W r := by
  cases r with
  | stuck => exact P
  | exc x => exact fun c dd Hs2 H2 g2 x2 => P c dd Hs2 H2 (g.trans g2) x2
  | ok d => exact fun v Hs2 H2 g2 => P v Hs2 H2 (g.trans g2)
structure SQ [md : Md] (X : Cx) (E : En) (ks : List Kd) (md : Bool) (e : Expr) (g : Sl → R D) : Prop where
  run : ∀ (Hs H : Hp) (r : Sl) (σ : L2.St) (W : WX) (Q : VK), Takes X W → StRel E Hs H ks r σ → PostQ E md Hs H Q (fun c dd H' => W c dd σ H') (g r) → WEx X e σ H Q
section
variable {X : Cx} {E : En} {ks : List Kd} {md : Bool} {e : Expr} {g : Sl → R D} {pos : Pos}
theorem sq_val (h : SE X E ks .val e g) : SQ X E ks md e g := by
  refine ⟨fun Hs H r σ W Q tk S P => ?_⟩
  refine h.run _ _ _ _ _ _ tk S ?_
  cases q : g r with
  | stuck => rw [q] at P; exact P
  | exc x => rw [q] at P; exact P
  | ok d =>
    rw [q] at P
    exact fun v Hs' H' g1 k1 => P v Hs' H' g1 (.val k1.rep)
theorem sq_bor (h : SE X E ks .bor e g) : SQ X E ks false e g := by
  refine ⟨fun Hs H r σ W Q tk S P => ?_⟩
  refine h.run _ _ _ _ _ _ tk S ?_
  cases q : g r with
  | stuck => rw [q] at P; exact P
  | exc x => rw [q] at P; exact P
  | ok d =>
    rw [q] at P
    intro v Hs' H' g1 k1
    refine P v Hs' H' g1 ?_
    cases k1.rb with
    | val h1 => exact .val h1
    | lst h1 h2 => exact .lst h1 h2
    | dct h1 h2 => exact .dct h1 h2
    | obj _ _ _ => exact .obj
theorem sq_par {i : Nat} {x : Str} (hk : ks[i]? = some .bor := by rfl) (hN : X.N[i]? = some x := by rfl) (hv : Vis X.env.scope x := by first | exact Or.inl rfl | exact Or.inr (Or.inl rfl) | exact Or.inr (Or.inr rfl))
    (hq : NmOk x) : SQ X E ks true (.Name x pos) (gVar i) := by
  refine ⟨fun Hs H r σ W Q tk S P => ?_⟩
  refine we_of (pe_var hN hv hq.1 hq.2) ?_
  cases q : gVar i r with
  | stuck => rw [q] at P; exact P.elim
  | exc x => exact (gVar_exc q).elim
  | ok d =>
    rw [q] at P
    obtain ⟨v, A, e, o⟩ := S.get hk (gVar_ok q)
    refine ⟨v, e, P v Hs H (Grow.refl S.sub) ?_⟩
    cases o with
    | borV rp => exact .val rp
    | borL h1 h2 => exact .lst h1 h2
    | borK h1 h2 => exact .dct h1 h2
    | borO _ _ _ => exact .obj
end
def WIx (X : Cx) (tg iter : Expr) : TI := fun σ H R => ∃ wi, PI X tg iter wi ∧ wi σ H R
theorem pi_wi {X : Cx} {tg iter : Expr} : PI X tg iter (WIx X tg iter) := ⟨fun pins s σ H R I ⟨wi, p, h⟩ => p.run pins s σ H R I h⟩
def PostI (E : En) (md : Bool) (Hs H : Hp) (Rr : It → Hp → Prop) (W : WX0) : R (List D) → Prop
  | .stuck => False
  | .exc x => ∀ c dd Hs' H', Grow Hs H Hs' H' → XRep E.cl Hs' H' x c dd → W c dd H'
  | .ok ds => ∀ J Hs' H', Grow Hs H Hs' H' → ItOk E.cl J ds Hs' (bq E md H') → Rr J H'
theorem PostI.grow {E : En} {md : Bool} {Hs H Hs' H' : Hp} {Q : It → Hp → Prop} {W : WX0} {r : R (List D)} (P : PostI E md Hs H Q W r) (g : Grow Hs H Hs' H') : PostI E md Hs' H' Q W r := by
  cases r with
  | stuck => exact P
  | exc x => exact fun c dd Hs2 H2 g2 x2 => P c dd Hs2 H2 (g.trans g2) x2
  | ok d => exact fun v Hs2 H2 g2 => P v Hs2 H2 (g.trans g2)
structure SI [md : Md] (X : Cx) (E : En) (ks : List Kd) (md : Bool) (tg iter : Expr) (g : Sl → R (List D)) : Prop where
  run : ∀ (Hs H : Hp) (r : Sl) (σ : L2.St) (W : WX) (Q : It → Hp → Prop), Takes X W → StRel E Hs H ks r σ → PostI E md Hs H Q (fun c dd H' => W c dd σ H') (g r) → WIx X tg iter σ H Q
/-- what is walked of a value -/
@[simp] def dIter : D → R (List D)
  | .lst ds => .ok ds
  | .tup ds => .ok ds
  | .str x => if x.cps.size ≤ szL then .ok (x.cps.toList.map fun c => .str ⟨#[c]⟩) else .stuck
  | _ => .stuck
@[simp] def gIter (g : Sl → R D) : Sl → R (List D) := fun r => do
  let d ← g r
  dIter d
section
variable {X : Cx} {E : En} {ks : List Kd} {md : Bool} {tg e e2 : Expr} {g g2 : Sl → R D} {pos p : Pos}
theorem PostQ.ofI {Hs H : Hp} {Q : It → Hp → Prop} {W : WX0} {r : R D} {f : D → R (List D)} (P : PostI E md Hs H Q W (r >>= f)) {Q1 : VK}
    (h : ∀ d v Hs' H', r = .ok d → Grow Hs H Hs' H' → RQ E.cl Hs' (bq E md H') d v → PostI E md Hs' H' Q W (f d) → Q1 v H') : PostQ E md Hs H Q1 W r := by
  cases r with
  | stuck => exact P
  | exc x => exact P
  | ok d => exact fun v Hs' H' g rk => h d v Hs' H' rfl g rk (PostI.grow (r := f d) P g)
theorem RQ.root {cl : Cl} {Hs Bq H Hs' : Hp} {ds : List D} {v : V} (q : RQ cl Hs Bq (.lst ds) v) : ∃ a xs, v = .ref a ∧ RepL cl Hs ds xs ∧ ∀ Hs' H, Same Hs Hs' → Same Hs' H → Same Bq H → H a = some (.lst xs) := by
  cases q with
  | val r =>
    cases r with
    | lst h1 h2 => exact ⟨_, _, rfl, h2, fun Hs' H e1 e2 _ => e2.at _ _ (e1.at _ _ h1)⟩
  | lst h1 h2 => exact ⟨_, _, rfl, h2, fun Hs' H _ _ e3 => e3.at _ _ h1⟩
theorem bq_same {H : Hp} (hb : Same E.b H) : Same (bq E md H) H := by
  unfold bq
  split
  · exact hb
  · exact Same.refl _
theorem ItOk.lst {K : PySem.W.Frag} {cl : Cl} {a : Addr} {xs : List V} {ds : List D} {Hs Bq : Hp} (rp : RepL cl Hs ds xs) (rt : ∀ Hs' H, Same Hs Hs' → Same Hs' H → Same Bq H → H a = some (.lst xs)) (hz : xs.length ≤ szL) : ItOk cl (Itl K a) ds Hs Bq where
  len := by rw [← rp.length]; exact hz
  go := fun Hs' H e1 e2 e3 i hi => by
    obtain ⟨v, e, _⟩ := rp.get (d := ds[i]) (i := i) (by simp [hi])
    exact ⟨xs, v, SqL.of (rt Hs' H e1 e2 e3), e⟩
  stop := fun Hs' H e1 e2 e3 => ⟨xs, SqL.of (rt Hs' H e1 e2 e3), by rw [rp.length]; exact Nat.le_refl _⟩
  yld := fun Hs' H e1 e2 e3 i d x H' hd y => by
    obtain ⟨rfl, y⟩ := y
    obtain ⟨v, e, r⟩ := rp.get hd
    have q := y xs (SqL.of (rt Hs' _ e1 e2 e3))
    rw [e] at q
    cases q
    exact ⟨Hs', Grow.refl e2, Rep.same e1 _ _ r⟩
theorem ItOk.tup {K : PySem.W.Frag} {cl : Cl} {a : Addr} {xs : List V} {ds : List D} {Hs Bq : Hp} (rp : RepL cl Hs ds xs) (ha : Hs a = some (.tup xs)) (hz : xs.length ≤ szL) : ItOk cl (Itt K a) ds Hs Bq where
  len := by rw [← rp.length]; exact hz
  go := fun Hs' H e1 e2 e3 i hi => by
    obtain ⟨v, e, _⟩ := rp.get (d := ds[i]) (i := i) (by simp [hi])
    exact ⟨xs, v, SqT.of (e2.at _ _ (e1.at _ _ ha)), e⟩
  stop := fun Hs' H e1 e2 e3 => ⟨xs, SqT.of (e2.at _ _ (e1.at _ _ ha)), by rw [rp.length]; exact Nat.le_refl _⟩
  yld := fun Hs' H e1 e2 e3 i d x H' hd y => by
    obtain ⟨rfl, y⟩ := y
    obtain ⟨v, e, r⟩ := rp.get hd
    have q := y xs (SqT.of (e2.at _ _ (e1.at _ _ ha)))
    rw [e] at q
    cases q
    exact ⟨Hs', Grow.refl e2, Rep.same e1 _ _ r⟩
theorem ItOk.str {cl : Cl} {x : Str} {Hs Bq : Hp} (hz : x.cps.size ≤ szL) : ItOk cl (Its x) (x.cps.toList.map fun c => .str ⟨#[c]⟩) Hs Bq where
  len := by rw [List.length_map]; exact hz
  go := fun Hs' H e1 e2 e3 i hi => by
    rw [List.length_map] at hi
    exact hi
  stop := fun Hs' H e1 e2 e3 => by
    show x.cps.size ≤ _
    rw [List.length_map]
    exact Nat.le_refl _
  yld := fun Hs' H e1 e2 e3 i d v H' hd y => by
    obtain ⟨rfl, c, hc, rfl⟩ := y
    rw [List.getElem?_map, Array.getElem?_toList, hc] at hd
    cases hd
    exact ⟨Hs', Grow.refl e2, .str _⟩
theorem si_it (h : SQ X E ks md e g) : SI X E ks md tg e (gIter g) := by
  refine ⟨fun Hs H r σ W Q tk S P => ?_⟩
  have sb : Same E.b H := let ⟨_, s⟩ := S; s.eb
  unfold gIter at P
  have key : ∀ (wi : TI) (Q1 : VK), PI X tg e wi → (WEx X e σ H Q1 → wi σ H Q) → WEx X e σ H Q1 → WIx X tg e σ H Q := fun wi Q1 p f w => ⟨wi, p, f w⟩
  cases q : g r with
  | stuck => rw [q] at P; exact P.elim
  | exc x =>
    refine ⟨_, pi_list pe_we, ?_⟩
    refine h.run _ _ _ _ _ _ tk S ?_
    rw [q] at P ⊢
    exact P
  | ok d =>
    cases d with
    | lst ds =>
      refine ⟨_, pi_list pe_we, ?_⟩
      refine we_len (h.run _ _ _ _ _ _ tk S (PostQ.ofI P fun d v Hs1 H1 e1 g1 k1 P1 => ?_))
      rw [q] at e1
      cases e1
      obtain ⟨a, xs, rfl, rp, rt⟩ := k1.root (H := H1) (Hs' := Hs1)
      intro hl
      have e0 := rt Hs1 H1 (Same.refl _) g1.sub (bq_same (sb.trans g1.h))
      exact ⟨a, rfl, ⟨xs, SqL.of e0⟩, P1 _ Hs1 H1 (Grow.refl g1.sub) (ItOk.lst rp rt (hl.1 _ _ e0))⟩
    | tup ds =>
      refine ⟨_, pi_tup pe_we, ?_⟩
      refine we_len (h.run _ _ _ _ _ _ tk S (PostQ.ofI P fun d v Hs1 H1 e1 g1 k1 P1 => ?_))
      rw [q] at e1
      cases e1
      intro hl
      cases k1 with
      | val k =>
        cases k with
        | tup h1 h2 =>
          have e0 := g1.sub.at _ _ h1
          exact ⟨_, rfl, ⟨_, SqT.of e0⟩, P1 _ Hs1 H1 (Grow.refl g1.sub) (ItOk.tup h2 h1 (hl.2 _ _ e0))⟩
    | str x =>
      refine ⟨_, pi_str pe_we, ?_⟩
      refine h.run _ _ _ _ _ _ tk S (PostQ.ofI P fun d v Hs1 H1 e1 g1 k1 P1 => ?_)
      rw [q] at e1
      cases e1
      cases k1 with
      | val k =>
        cases k
        dsimp only [dIter] at P1
        split at P1
        · rename_i hz
          exact ⟨_, rfl, P1 _ Hs1 H1 (Grow.refl g1.sub) (ItOk.str hz)⟩
        · exact P1.elim
    | _ => rw [q] at P; exact P.elim
/-- lo, lo + 1, .. -/
def rangeD (lo : Int) (n : Nat) : List D := (List.range n).map fun (i : Nat) => D.int (lo + i)
theorem rangeD_len (lo : Int) (n : Nat) : (rangeD lo n).length = n := by simp [rangeD]
theorem ItOk.rng {cl : Cl} {lo : Int} {n : Nat} {Hs Bq : Hp} (hz : n ≤ szL) : ItOk cl (Itr lo n) (rangeD lo n) Hs Bq where
  len := by rw [rangeD_len]; exact hz
  go := fun Hs' H e1 e2 e3 i hi => by rw [rangeD_len] at hi; exact hi
  stop := fun Hs' H e1 e2 e3 => by rw [rangeD_len]; exact Nat.le_refl n
  yld := fun Hs' H e1 e2 e3 i d v H' hd y => by
    obtain ⟨rfl, rfl⟩ := y
    unfold rangeD at hd
    rw [List.getElem?_map] at hd
    by_cases hi : i < n
    · rw [List.getElem?_range hi] at hd
      cases hd
      exact ⟨Hs', Grow.refl e2, .int _⟩
    · rw [List.getElem?_eq_none (by simpa using hi)] at hd
      cases hd
def dRange1 : D → R (List D)
  | .int j => if j.toNat ≤ szL then .ok (rangeD 0 j.toNat) else .stuck
  | _ => .stuck
def dRange2 : D → D → R (List D)
  | .int i, .int j => if (j - i).toNat ≤ szL then .ok (rangeD i (j - i).toNat) else .stuck
  | _, _ => .stuck
@[simp] def gRange1 (g : Sl → R D) : Sl → R (List D) := fun r => do
  let d ← g r
  dRange1 d
@[simp] def gRange2 (g g2 : Sl → R D) : Sl → R (List D) := fun r => do
  let d ← g r
  let d2 ← g2 r
  dRange2 d d2
theorem Post.ofI {k : Kd} {Hs H : Hp} {Q : It → Hp → Prop} {W : WX0} {r : R D} {f : D → R (List D)} (P : PostI E md Hs H Q W (r >>= f)) {Q1 : VK}
    (h : ∀ d v Hs' H', r = .ok d → Grow Hs H Hs' H' → RK E.cl k H Hs' H' d v → PostI E md Hs' H' Q W (f d) → Q1 v H') : Post E.cl k Hs H Q1 W r := by
  cases r with
  | stuck => exact P
  | exc x => exact P
  | ok d => exact fun v Hs' H' g rk => h d v Hs' H' rfl g rk (PostI.grow (r := f d) P g)
theorem wa_one {σ : L2.St} {H : Hp} {Q : List V → Hp → Prop} (h : WEx X e σ H fun v H' => Q [v] H') (hs : starEach (e :: []) X.env = (false, eval e X.env) :: starEach [] X.env := by rfl) : WAx X [e] σ H Q := wa_of (pa_cons pe_we pa_nil hs) h
theorem wa_two {σ : L2.St} {H : Hp} {Q : List V → Hp → Prop} (h : WEx X e σ H fun v H' => WEx X e2 σ H' fun v2 H2 => Q [v, v2] H2) (hs : starEach (e :: [e2]) X.env = (false, eval e X.env) :: starEach [e2] X.env := by rfl) (hs2 : starEach (e2 :: []) X.env = (false, eval e2 X.env) :: starEach [] X.env := by rfl) : WAx X [e, e2] σ H Q :=
  wa_of (pa_cons pe_we (pa_cons pe_we pa_nil hs2) hs) h
theorem si_range1 (hm : X.mg "range" = none) (h : SE X E ks .bor e g) (hg : Gl X "range" := by rfl) (hs : starEach [e] X.env = [(false, eval e X.env)] := by rfl) : SI X E ks md tg (.Call (.Name "range" p) [e] [] pos) (gRange1 g) := by
  refine ⟨fun Hs H r σ W Q tk S P => ?_⟩
  refine ⟨_, pi_rangeA1 hg hm pa_wa hs, ?_⟩
  refine wa_one (h.run _ _ _ _ _ _ tk S (Post.ofI P fun d v Hs1 H1 e1 g1 k1 P1 => ?_)) hs
  cases d <;> first | exact P1.elim | skip
  cases k1.rb.intInv
  dsimp only [dRange1] at P1
  split at P1
  · rename_i z
    exact ⟨_, rfl, P1 _ Hs1 H1 (Grow.refl g1.sub) (ItOk.rng z)⟩
  · exact P1.elim
theorem si_range2 (hm : X.mg "range" = none) (h : SE X E ks .bor e g) (h2 : SE X E ks .bor e2 g2) (hg : Gl X "range" := by rfl) (hs : starEach [e, e2] X.env = [(false, eval e X.env), (false, eval e2 X.env)] := by rfl) (hs2 : starEach [e2] X.env = [(false, eval e2 X.env)] := by rfl) :
    SI X E ks md tg (.Call (.Name "range" p) [e, e2] [] pos) (gRange2 g g2) := by
  refine ⟨fun Hs H r σ W Q tk S P => ?_⟩
  refine ⟨_, pi_rangeA2 hg hm pa_wa hs hs2, ?_⟩
  refine wa_two (h.run _ _ _ _ _ _ tk S (Post.ofI (f := fun d => g2 r >>= fun d2 => dRange2 d d2) P fun d v Hs1 H1 e1 g1 k1 P1 => ?_)) (by rw [hs, hs2]) hs2
  refine h2.run _ _ _ _ _ _ tk (S.grow g1) (Post.ofI P1 fun d2 v2 Hs2 H2 e2 gg k2 P2 => ?_)
  cases d <;> cases d2 <;> first | exact P2.elim | skip
  cases k1.rb.intInv
  cases k2.rb.intInv
  dsimp only [dRange2] at P2
  split at P2
  · rename_i z
    exact ⟨_, _, rfl, P2 _ Hs2 H2 (Grow.refl gg.sub) (ItOk.rng z)⟩
  · exact P2.elim
end

def mapR {α β : Type} (f : α → R β) : List α → R (List β)
  | [] => .ok []
  | a :: l => do
    let b ← f a
    let bs ← mapR f l
    .ok (b :: bs)
theorem mapR_ok {α β : Type} {f : α → R β} : ∀ {l : List α} {bs : List β}, mapR f l = .ok bs → bs.length = l.length ∧ ∀ (i : Nat) a, l[i]? = some a → ∃ b, bs[i]? = some b ∧ f a = .ok b
  | [], bs, h => by
    cases h
    exact ⟨rfl, fun i a z => by simp at z⟩
  | a :: l, bs, h => by
    dsimp only [mapR] at h
    cases q : f a with
    | stuck => rw [q] at h; cases h
    | exc x => rw [q] at h; cases h
    | ok b =>
      rw [q] at h
      cases q2 : mapR f l with
      | stuck => rw [q2] at h; cases h
      | exc x => rw [q2] at h; cases h
      | ok bs' =>
        rw [q2] at h
        cases h
        obtain ⟨h1, h2⟩ := mapR_ok q2
        refine ⟨by simp [h1], fun i a' z => ?_⟩
        cases i with
        | zero =>
          simp at z
          subst z
          exact ⟨b, rfl, q⟩
        | succ i =>
          obtain ⟨b', e, e2⟩ := h2 i a' (by simpa using z)
          exact ⟨b', by simpa using e, e2⟩
def noX {α : Type} : R α → R α
  | .ok a => .ok a
  | _ => .stuck
theorem noX_ok {α : Type} {r : R α} {a : α} (h : noX r = .ok a) : r = .ok a := by
  cases r <;> first | cases h | skip
  rfl
@[simp] def wipeD (r : Sl) : List Nat → Sl
  | [] => r
  | v :: vs => (wipeD r vs).set v none
def wipeK (ks : List Kd) : List Nat → List Kd
  | [] => ks
  | v :: vs => (wipeK ks vs).set v .val
/-- one turn of a comprehension -/
def gTurn (t : Tg) (vs : List Nat) (tt : Sl → R Bool) (ge : Sl → R D) (r : Sl) (d : D) : R (Option D) := do
  let xs ← t.un d
  let b ← tt (setD (wipeD r vs) t.is xs)
  if b then (do
    let y ← ge (setD (wipeD r vs) t.is xs)
    .ok (some y)) else .ok none
def gComp (gi : Sl → R (List D)) (t : Tg) (vs : List Nat) (tt : Sl → R Bool) (ge : Sl → R D) : Sl → R D := fun r => do
  let ds ← gi r
  let os ← noX (mapR (gTurn t vs tt ge r) ds)
  .ok (.lst (os.filterMap id))

@[simp] def gYes : Sl → R Bool := fun _ => .ok true
def WPs (X : Cx) (ifs : List Expr) : TT := fun σ H Q => ∃ t, PTs X ifs t ∧ t σ H Q
theorem pts_wp {X : Cx} {ifs : List Expr} : PTs X ifs (WPs X ifs) := ⟨fun pins s σ H Q I ⟨t, p, h⟩ => p.run pins s σ H Q I h⟩
structure SP1 [md : Md] (X : Cx) (E : En) (ks : List Kd) (ifs : List Expr) (g : Sl → R Bool) : Prop where
  run : ∀ (Hs H : Hp) (r : Sl) (σ : L2.St) (W : WX) (Q : Bool → Hp → Prop), Takes X W → StRel E Hs H ks r σ → PostT E.cl Hs H Q (fun c dd H' => W c dd σ H') (g r) → WPs X ifs σ H Q
theorem sp_nil {X : Cx} {E : En} {ks : List Kd} : SP1 X E ks [] gYes := ⟨fun Hs H r σ W Q tk S P => ⟨_, pts_nil, P Hs H (Grow.refl S.sub)⟩⟩
theorem sp_one {X : Cx} {E : En} {ks : List Kd} {c : Expr} {g : Sl → R Bool} (h : ST X E ks c g) : SP1 X E ks [c] g := ⟨fun Hs H r σ W Q tk S P => ⟨_, pts_one pt_wt, h.run _ _ _ _ _ _ tk S P⟩⟩
theorem StRel.wipe {E : En} {Hs H : Hp} {r : Sl} {σ : L2.St} {ks : List Kd} (S : StRel E Hs H ks r σ) : ∀ (vs : List Nat), (∀ i ∈ vs, i < ks.length) → StRel E Hs H (wipeK ks vs) (wipeD r vs) (wipe σ vs) ∧ (wipeK ks vs).length = ks.length
  | [], _ => ⟨S, rfl⟩
  | v :: vs, h => by
    obtain ⟨q, l⟩ := StRel.wipe S vs fun i hi => h i (List.mem_cons_of_mem _ hi)
    have hv : v < (wipeK ks vs).length := by rw [l]; exact h v List.mem_cons_self
    refine ⟨q.wipe1 (k := (wipeK ks vs)[v]) (by simp [hv]) none, ?_⟩
    show ((wipeK ks vs).set v .val).length = _
    rw [List.length_set, l]
theorem wipe_set {σ : L2.St} {i : Nat} {x : V} : ∀ {vs : List Nat}, i ∈ vs → wipe (σ.set i (some x)) vs = wipe σ vs
  | [], h => by cases h
  | v :: vs, h => by
    by_cases hm : i ∈ vs
    · show (wipe (σ.set i (some x)) vs).set v none = (wipe σ vs).set v none
      rw [wipe_set hm]
    · have e : i = v := by
        rcases List.mem_cons.mp h with z | z
        · exact z
        · exact absurd z hm
      subst e
      have key : ∀ (vs : List Nat) (σ : L2.St), i ∉ vs → wipe (σ.set i (some x)) vs = (wipe σ vs).set i (some x) := by
        intro vs
        induction vs with
        | nil => intro σ _; rfl
        | cons w ws ih =>
          intro σ hn
          have h1 : i ≠ w := fun z => hn (z ▸ List.mem_cons_self)
          show (wipe (σ.set i (some x)) ws).set w none = ((wipe σ ws).set w none).set i (some x)
          rw [ih σ fun z => hn (List.mem_cons_of_mem _ z), List.set_comm _ _ h1]
      show (wipe (σ.set i (some x)) vs).set i none = (wipe σ vs).set i none
      rw [key vs σ hm, List.set_set]
theorem wipe_setV : ∀ {is : List Nat} {xs : List V} {σ : L2.St} {vs : List Nat}, (∀ i ∈ is, i ∈ vs) → wipe (setV σ is xs) vs = wipe σ vs
  | [], [], _, _, _ => rfl
  | [], _ :: _, _, _, _ => rfl
  | _ :: _, [], _, _, _ => rfl
  | i :: is, x :: xs, σ, vs, h => by
    show wipe (setV (σ.set i (some x)) is xs) vs = _
    rw [wipe_setV fun j hj => h j (List.mem_cons_of_mem _ hj), wipe_set (h i List.mem_cons_self)]
theorem wipe_idem {σ : L2.St} : ∀ (vs : List Nat), wipe (wipe σ vs) vs = wipe σ vs := fun vs => by
  have key : ∀ (ws : List Nat) (τ : L2.St), (∀ i ∈ ws, τ[i]? = some none ∨ τ[i]? = none) → wipe τ ws = τ := by
    intro ws
    induction ws with
    | nil => intro τ _; rfl
    | cons w ws ih =>
      intro τ h
      show (wipe τ ws).set w none = τ
      rw [ih τ fun i hi => h i (List.mem_cons_of_mem _ hi)]
      rcases h w List.mem_cons_self with e | e
      · obtain ⟨hw, e2⟩ := List.getElem?_eq_some_iff.mp e
        rw [← e2, List.set_getElem_self]
      · rw [List.set_eq_of_length_le (by simpa using e)]
  refine key vs _ fun i hi => ?_
  cases q : (wipe σ vs)[i]? with
  | none => exact .inr rfl
  | some o =>
    cases o with
    | none => exact .inl rfl
    | some x => exact absurd hi (wipe_some q).2
theorem filterMap_take {os : List (Option D)} {i : Nat} {o : Option D} (h : os[i]? = some o) : (os.take (i + 1)).filterMap id = (os.take i).filterMap id ++ o.toList := by
  rw [List.take_add_one, h, List.filterMap_append]
  cases o <;> rfl
def rdG (X : Cx) (scope : Scope) (tg : Expr) : TG := fun v σ H Q => ∀ (s : Shared) (H0 : Hp) (C : Addr) (cl : List (Str × Addr)) (fp : List Addr), WGx (X.blk s H0 scope (compEnvC scope cl C X.env) fp) tg v σ H Q
def rdT (X : Cx) (scope : Scope) (ifs : List Expr) : TT := fun σ H Q => ∀ (s : Shared) (H0 : Hp) (C : Addr) (cl : List (Str × Addr)) (fp : List Addr), WPs (X.blk s H0 scope (compEnvC scope cl C X.env) fp) ifs σ H Q
def rdE (X : Cx) (scope : Scope) (elt : Expr) : TE := fun σ H Q => ∀ (s : Shared) (H0 : Hp) (C : Addr) (cl : List (Str × Addr)) (fp : List Addr), WEx (X.blk s H0 scope (compEnvC scope cl C X.env) fp) elt σ H Q
theorem pg_rd {X : Cx} {scope : Scope} {tg : Expr} (s : Shared) (H : Hp) (C : Addr) (cl : List (Str × Addr)) (fp : List Addr) : PG (X.blk s H scope (compEnvC scope cl C X.env) fp) tg (rdG X scope tg) :=
  ⟨fun pins s' σ H' v u Q' I r h => pg_wg.run pins s' σ H' v u Q' I r (h s H C cl fp)⟩
theorem pts_rd {X : Cx} {scope : Scope} {ifs : List Expr} (s : Shared) (H : Hp) (C : Addr) (cl : List (Str × Addr)) (fp : List Addr) : PTs (X.blk s H scope (compEnvC scope cl C X.env) fp) ifs (rdT X scope ifs) :=
  ⟨fun pins s' σ H' Q' I h => pts_wp.run pins s' σ H' Q' I (h s H C cl fp)⟩
theorem pe_rd {X : Cx} {scope : Scope} {elt : Expr} (s : Shared) (H : Hp) (C : Addr) (cl : List (Str × Addr)) (fp : List Addr) : PE (X.blk s H scope (compEnvC scope cl C X.env) fp) elt (rdE X scope elt) :=
  ⟨fun pins s' σ H' Q' I h => h s H C cl fp pins s' I⟩
/-- the reading of a comprehension -/
theorem comp_read {X : Cx} {E : En} {ks : List Kd} {elt tg iter : Expr} {ifs : List Expr} {scope : Scope} {vs : List Nat} {t : Tg} {gi : Sl → R (List D)} {tt : Sl → R Bool} {ge : Sl → R D}
    (hi : SI X E ks false tg iter gi) (hv : ∀ i ∈ vs, i < ks.length) (hm : ∀ i ∈ t.is, i ∈ vs)
    (hg : ∀ (s : Shared) (H : Hp) (C : Addr) (cl : List (Str × Addr)) (fp : List Addr), SG (X.blk s H scope (compEnvC scope cl C X.env) fp) tg t)
    (ht : ∀ (s : Shared) (H : Hp) (C : Addr) (cl : List (Str × Addr)) (fp : List Addr), SP1 (X.blk s H scope (compEnvC scope cl C X.env) fp) E (setK (wipeK ks vs) t.is) ifs tt)
    (he : ∀ (s : Shared) (H : Hp) (C : Addr) (cl : List (Str × Addr)) (fp : List Addr), SE (X.blk s H scope (compEnvC scope cl C X.env) fp) E (setK (wipeK ks vs) t.is) .val elt ge)
    {Hs H : Hp} {r : Sl} {σ : L2.St} {W : WX} {Q : VK} (tk : Takes X W) (S : StRel E Hs H ks r σ) (P : Post E.cl (.own none) Hs H Q (fun c dd H' => W c dd σ H') (gComp gi t vs tt ge r)) :
    tLc (WIx X tg iter) (rdG X scope tg) (rdT X scope ifs) (rdE X scope elt) vs σ H Q := by
  refine hi.run _ _ _ _ _ _ tk S ?_
  unfold gComp at P
  cases q : gi r with
  | stuck => rw [q] at P; exact P
  | exc x => rw [q] at P; exact P
  | ok ds =>
    rw [q] at P
    intro J Hs1 H1 g1 J1 D hD
    have P1 := Post.grow (r := noX (mapR (gTurn t vs tt ge r) ds) >>= fun os => R.ok (VL.D.lst (os.filterMap id))) P g1
    cases q2 : noX (mapR (gTurn t vs tt ge r) ds) with
    | stuck => rw [q2] at P1; exact P1.elim
    | exc x =>
      cases q3 : mapR (gTurn t vs tt ge r) ds <;> rw [q3] at q2 <;> cases q2
    | ok os =>
      rw [q2] at P1
      obtain ⟨hlen, hturn⟩ := mapR_ok (noX_ok q2)
      have P1' : Post E.cl (.own none) Hs1 H1 Q (fun c dd H' => W c dd σ H') (R.ok (VL.D.lst (os.filterMap id))) := P1
      have S1 := S.grow g1
      refine ⟨fun i m H' => m = ds.length - i ∧ i ≤ ds.length ∧ ∃ Hs' acc, Grow Hs1 H1 Hs' H' ∧ H' D = some (.lst acc) ∧ Hs' D = none ∧ RepL E.cl Hs' ((os.take i).filterMap id) acc ∧ acc.length ≤ i,
        ⟨ds.length, by simp, Nat.zero_le _, Hs1, [], Grow.fresh g1.sub hD, upd_same, g1.sub.free hD, .nil, Nat.le_refl _⟩, ?_⟩
      rintro i m H' ⟨rfl, hi', Hs', acc, g2, eD, nD, rp, hacc⟩
      have sq : Same (bq E false H1) H' := g2.h
      by_cases hlt : i < ds.length
      · refine .inr ⟨J1.go Hs' H' g2.s g2.sub sq i hlt, fun H2 => ∃ Hs2 acc2, Grow Hs1 H1 Hs2 H2 ∧ H2 D = some (.lst acc2) ∧ Hs2 D = none ∧ RepL E.cl Hs2 ((os.take (i + 1)).filterMap id) acc2 ∧ acc2.length ≤ i + 1, ?_, ?_⟩
        · rintro H2 ⟨Hs2, acc2, z1, z2, z3, z4, z5⟩
          exact ⟨ds.length - (i + 1), by omega, rfl, hlt, Hs2, acc2, z1, z2, z3, z4, z5⟩
        · intro x H2 y s0 H0 C cl fp
          obtain ⟨d, hd⟩ : ∃ d, ds[i]? = some d := ⟨ds[i], by simp [hlt]⟩
          obtain ⟨Hs2, g3, rx⟩ := J1.yld Hs' H' g2.s g2.sub sq i d x H2 hd y
          obtain ⟨o, ho, hf⟩ := hturn i d hd
          unfold gTurn at hf
          cases q4 : t.un d with
          | stuck => rw [q4] at hf; cases hf
          | exc x => rw [q4] at hf; cases hf
          | ok xs =>
            rw [q4] at hf
            refine (hg s0 H0 C cl fp).run E.cl Hs2 H2 _ d x xs _ g3.sub rx q4 fun ys ry => ⟨by rw [wipe_setV hm, wipe_idem], fun s1 H01 C1 cl1 fp1 => ?_⟩
            have g23 := g2.trans g3
            obtain ⟨S2, hl2⟩ := StRel.wipe (S1.grow g23) vs hv
            have S3 : StRel E Hs2 H2 (setK (wipeK ks vs) t.is) (setD (wipeD r vs) t.is xs) (setV (wipe σ vs) t.is ys) :=
              StRel.puts S2 (fun j hj => by rw [hl2]; exact hv j (hm j hj)) (Tg.un_len q4) ry
            have eD2 : H2 D = some (.lst acc) := g3.h.at _ _ eD
            have nD2 : ∀ {Hsx Hx : Hp}, Grow Hs' H' Hsx Hx → Hsx D = none := fun {Hsx Hx} gx => by
              cases qq : Hsx D with
              | none => rfl
              | some u =>
                rcases gx.n D (by rw [qq]; simp) with z | z
                · exact absurd nD z
                · rw [eD] at z; cases z
            refine (ht s1 H01 C1 cl1 fp1).run _ _ _ _ (fun _ _ _ _ => False) _ takesF S3 ?_
            have hf' : (tt (setD (wipeD r vs) t.is xs) >>= fun b => if b then (ge (setD (wipeD r vs) t.is xs) >>= fun y => R.ok (some y)) else R.ok none) = R.ok o := hf
            cases q5 : tt (setD (wipeD r vs) t.is xs) with
            | stuck => rw [q5] at hf'; cases hf'
            | exc x => rw [q5] at hf'; cases hf'
            | ok b =>
              rw [q5] at hf'
              intro Hs3 H3 g4
              cases b with
              | false =>
                have e0 : (R.ok none : R (Option VL.D)) = R.ok o := hf'
                cases e0
                refine iteF ⟨Hs3, acc, g23.trans g4, g4.h.at _ _ eD2, nD2 (g3.trans g4), ?_, by omega⟩
                rw [filterMap_take ho]
                simpa using RepL.same (g3.trans g4).s _ _ rp
              | true =>
                refine iteT fun s2 H02 C2 cl2 fp2 => ?_
                refine (he s2 H02 C2 cl2 fp2).run _ _ _ _ (fun _ _ _ _ => False) _ takesF (S3.grow g4) ?_
                have hf2 : (ge (setD (wipeD r vs) t.is xs) >>= fun y => R.ok (some y)) = R.ok o := hf'
                cases q6 : ge (setD (wipeD r vs) t.is xs) with
                | stuck => rw [q6] at hf2; cases hf2
                | exc x => rw [q6] at hf2; cases hf2
                | ok y =>
                  rw [q6] at hf2
                  have e0 : (R.ok (some y) : R (Option VL.D)) = R.ok o := hf2
                  cases e0
                  intro v Hs4 H4 g5 k5
                  have g35 := (g3.trans g4).trans g5
                  have hD4 : H4 D = some (.lst acc) := g35.h.at _ _ eD
                  have hN4 := nD2 g35
                  have g25 := g2.trans g35
                  have hz : acc.length < sizeLine := by
                    rw [szL_eq]
                    have := J1.len
                    omega
                  refine ⟨acc, hD4, hz, Hs4, acc ++ [v], ⟨g25.s, ⟨fun b u e nt => ?_⟩, g25.n, ⟨fun b u e nt => ?_⟩, fun P z => tab_mut hD4 P (g25.t P z)⟩, upd_same, hN4, ?_, by simp; omega⟩
                  · rw [upd_ne (ne_of_none e hD)] at nt ⊢
                    exact g25.h.k _ _ e nt
                  · rw [upd_ne (ne_of_none e hN4)] at nt ⊢
                    exact g25.sub.k _ _ e nt
                  · rw [filterMap_take ho]
                    exact (RepL.same g35.s _ _ rp).app (.cons k5.rep .nil)
      · have e : i = ds.length := by omega
        subst e
        refine .inl ⟨J1.stop Hs' H' g2.s g2.sub sq, ?_⟩
        rw [← hlen, List.take_length] at rp
        refine P1' (.ref D) Hs' H' g2 ⟨[D], .ownL ⟨hD, fun _ z => nomatch z⟩ eD rp, by simp, fun a ha => ?_⟩
        have q : a = D := by simpa using ha
        subst q
        exact ⟨nD, hD⟩
theorem se_comp {X : Cx} {E : En} {ks : List Kd} {elt tg iter : Expr} {ifs : List Expr} {scope : Scope} {pos : Pos} {t : Tg} {gi : Sl → R (List D)} {tt : Sl → R Bool} {ge : Sl → R D}
    (own : List (Str × Nat)) (hc : X.calm = true) (hN : X.N.Nodup) (hi : SI X E ks false tg iter gi) (ok : BlkOk X.N X.env.scope scope own) (hv : ∀ i ∈ own.map (·.2), i < ks.length) (hm : ∀ i ∈ t.is, i ∈ own.map (·.2))
    (hg : ∀ (s : Shared) (H : Hp) (C : Addr) (cl : List (Str × Addr)) (fp : List Addr), SG (X.blk s H scope (compEnvC scope cl C X.env) fp) tg t)
    (ht : ∀ (s : Shared) (H : Hp) (C : Addr) (cl : List (Str × Addr)) (fp : List Addr), SP1 (X.blk s H scope (compEnvC scope cl C X.env) fp) E (setK (wipeK ks (own.map (·.2))) t.is) ifs tt)
    (he : ∀ (s : Shared) (H : Hp) (C : Addr) (cl : List (Str × Addr)) (fp : List Addr), SE (X.blk s H scope (compEnvC scope cl C X.env) fp) E (setK (wipeK ks (own.map (·.2))) t.is) .val elt ge)
    (hs : ∀ x, foldedSetIterable iter X.env x = pure x := by intro _; rfl) : SE X E ks (.own none) (.ListComp elt [⟨tg, iter, ifs, 0⟩] scope pos) (gComp gi t (own.map (·.2)) tt ge) := by
  refine ⟨fun Hs H r σ W Q tk S P => ?_⟩
  exact we_of (pe_lc hc hN pi_wi ok pg_rd pts_rd pe_rd hs) (comp_read hi hv hm hg ht he tk S P)
end VL
end

noncomputable section
namespace VL
open PySem PySem.Spec PyProof.Rows L2
variable {md : Md}

section
variable {cl : Cl}
mutual
theorem ORep.anyB {N : Addr → Prop} {B B' Hs H : Hp} : ∀ (k : Kd) (d : D) (v : V) (A : List Addr), k.fine = true → ORep cl N B Hs H k d v A → ORep cl N B' Hs H k d v A
  | .val, _, _, _, _, h => by
    cases h with
    | val h1 => exact .val h1
  | .bor, _, _, _, z, _ => by cases z
  | .own n, _, _, _, _, h => by
    cases h with
    | ownL h0 h1 h2 => exact .ownL h0 h1 h2
    | ownK h0 h1 h2 => exact .ownK h0 h1 h2
    | ownV h0 h1 => exact .ownV h0 h1
  | .obj n ks, _, _, _, z, h => by
    cases h with
    | obj h0 h1 h2 h3 => exact .obj h0 h1 h2 (OFs.anyB ks _ _ _ (by simpa [Kd.fine] using z) h3)
  | .lls n k, _, _, _, z, h => by
    cases h with
    | lls h0 h1 h2 => exact .lls h0 h1 (OLs.imp (fun _ => True) (fun _ _ _ => trivial) (fun _ _ _ => trivial) (fun d v A _ o => ORep.anyB k d v A z o) trivial h2)
    | llT h0 h1 h2 => exact .llT h0 h1 (OLs.imp (fun _ => True) (fun _ _ _ => trivial) (fun _ _ _ => trivial) (fun d v A _ o => ORep.anyB k d v A z o) trivial h2)
    | llV h0 h1 => exact .llV h0 h1
theorem OFs.anyB {N : Addr → Prop} {B B' Hs H : Hp} : ∀ (ks : List (Str × Kd)) (ds : List (Str × D)) (xs : List (Str × V)) (A : List Addr), Kd.fine.fines ks = true → OFs cl N B Hs H ks ds xs A → OFs cl N B' Hs H ks ds xs A
  | [], _, _, _, _, h => by cases h; exact .nil
  | (f, k) :: ks, _, _, _, z, h => by
    have z' : k.fine = true ∧ Kd.fine.fines ks = true := by simpa [Kd.fine.fines] using z
    cases h with
    | cons h1 h2 => exact .cons (ORep.anyB k _ _ _ z'.1 h1) (OFs.anyB ks _ _ _ z'.2 h2)
end
end

section
variable {E : En} {Hs H Hs' H' : Hp} {ks : List Kd} {r : Sl} {σ : L2.St}
theorem RK.new (S : StRel E Hs H ks r σ) (g : Grow Hs H Hs' H') {k : Kd} {d : D} {v : V} (f : k.fine = true) (rk : RK E.cl k H Hs' H' d v) :
    ∃ A, ORep E.cl E.N E.b Hs' H' k d v A ∧ A.Nodup ∧ (∀ a ∈ A, Hs' a = none ∧ E.b a = none ∧ H a = none) := by
  obtain ⟨As, S⟩ := S
  obtain ⟨A, o, nd, z⟩ := rk
  exact ⟨A, ORep.anyB k _ _ _ f (ORep.mono (Same.refl _) (Same.refl _) (fun a q => S.dom a q) k _ _ _ (fun _ _ => rfl) o), nd, fun a ha => ⟨(z a ha).1, S.eb.free (z a ha).2, (z a ha).2⟩⟩
theorem nodup_mid {α : Type} {pre A post A' : List α} (h : (pre ++ (A ++ post)).Nodup) (hA : A'.Nodup) (d : ∀ a ∈ A', a ∉ pre ++ post) : (pre ++ (A' ++ post)).Nodup := by
  have h1 : (pre ++ post).Nodup := h.sublist (List.Sublist.append (List.Sublist.refl _) (List.sublist_append_right _ _))
  have p : (pre ++ (A' ++ post)).Perm (A' ++ (pre ++ post)) := by
    rw [← List.append_assoc, ← List.append_assoc]
    exact List.Perm.append_right _ List.perm_append_comm
  exact p.nodup_iff.mpr (List.nodup_append.mpr ⟨hA, h1, fun a ha b hb z => d a ha (z ▸ hb)⟩)
theorem StRel.putK {i : Nat} {k0 k : Kd} {d : D} {v : V} (S : StRel E Hs H ks r σ) (g : Grow Hs H Hs' H') (hk : ks[i]? = some k0) (f : k.fine = true) (rk : RK E.cl k H Hs' H' d v) : StRel E Hs' H' (ks.set i k) (r.set i (some d)) (σ.set i (some v)) := by
  obtain ⟨A', o, nd, z⟩ := RK.new S g f rk
  obtain ⟨As, S0⟩ := S
  have hh := S0.sl.here
  have S1 := S0.grow g
  obtain ⟨pre, A, post, e, _, q, _, _⟩ := S1.sl.at_ i hk
  have d1 : ∀ a ∈ A', a ∉ pre ++ post := fun a ha hm => by
    have : a ∈ As := by
      rw [e]
      rcases List.mem_append.mp hm with w | w
      · exact List.mem_append_left _ w
      · exact List.mem_append_right _ (List.mem_append_right _ w)
    obtain ⟨u, hu, _⟩ := hh a this
    rw [(z a ha).2.2] at hu
    cases hu
  refine ⟨_, q k d v A' o, nodup_mid (e ▸ S1.nd) nd d1, fun a ha => ?_, S1.es, S1.sub, S1.eb, S1.new, S1.dom, S1.tb⟩
  rcases List.mem_append.mp ha with w | w
  · exact S1.dis a (by rw [e]; exact List.mem_append_left _ w)
  · rcases List.mem_append.mp w with w | w
    · exact ⟨(z a w).1, (z a w).2.1⟩
    · exact S1.dis a (by rw [e]; exact List.mem_append_right _ (List.mem_append_right _ w))
theorem StRel.push {k : Kd} {d : D} {v : V} (S : StRel E Hs H ks r σ) (g : Grow Hs H Hs' H') (f : k.fine = true) (rk : RK E.cl k H Hs' H' d v) : StRel E Hs' H' (k :: ks) (some d :: r) (some v :: σ) := by
  obtain ⟨A', o, nd, z⟩ := RK.new S g f rk
  obtain ⟨As, S0⟩ := S
  have hh := S0.sl.here
  have S1 := S0.grow g
  have d1 : ∀ a ∈ A', a ∉ As := fun a ha hm => by
    obtain ⟨u, hu, _⟩ := hh a hm
    rw [(z a ha).2.2] at hu
    cases hu
  refine ⟨_, .cons o S1.sl, List.nodup_append.mpr ⟨nd, S1.nd, fun a ha b hb z => d1 a ha (z ▸ hb)⟩, fun a ha => ?_, S1.es, S1.sub, S1.eb, S1.new, S1.dom, S1.tb⟩
  rcases List.mem_append.mp ha with w | w
  · exact ⟨(z a w).1, (z a w).2.1⟩
  · exact S1.dis a w
/-- the value of a slot leaves it -/
theorem StRel.take {i : Nat} {k : Kd} {d : D} (S : StRel E Hs H ks r σ) (hk : ks[i]? = some k) (hd : r[i]? = some (some d)) : ∃ v, σ[i]? = some (some v) ∧ StRel E Hs H (k :: ks) (some d :: r.set i none) (some v :: σ) := by
  obtain ⟨As, S⟩ := S
  obtain ⟨pre, A, post, e, q1, _, q2, _⟩ := S.sl.at_ i hk
  obtain ⟨v, ev, o⟩ := q1 d hd
  refine ⟨v, ev, _, .cons o (by
    have z := q2 k (some v)
    have e1 : ks.set i k = ks := by
      obtain ⟨h, e2⟩ := List.getElem?_eq_some_iff.mp hk
      rw [← e2, List.set_getElem_self]
    have e3 : σ.set i (some v) = σ := by
      obtain ⟨h, e2⟩ := List.getElem?_eq_some_iff.mp ev
      rw [← e2, List.set_getElem_self]
    rw [e1, e3] at z
    exact z), ?_, fun a ha => S.dis a ?_, S.es, S.sub, S.eb, S.new, S.dom, S.tb⟩
  · have p : (A ++ (pre ++ post)).Perm As := by
      rw [e, ← List.append_assoc, ← List.append_assoc]
      exact List.Perm.append_right _ List.perm_append_comm
    exact p.nodup_iff.mpr S.nd
  · rw [e]
    rcases List.mem_append.mp ha with w | w
    · exact List.mem_append_right _ (List.mem_append_left _ w)
    · rcases List.mem_append.mp w with w | w
      · exact List.mem_append_left _ w
      · exact List.mem_append_right _ (List.mem_append_right _ w)
/-- an owned list is changed where it lies -/
theorem StRel.mutL {i : Nat} {n : Option Addr} {ds : List D} (S : StRel E Hs H ks r σ) (hk : ks[i]? = some (.own n)) (hd : r[i]? = some (some (.lst ds))) :
    ∃ a xs, σ[i]? = some (some (.ref a)) ∧ H a = some (.lst xs) ∧ RepL E.cl Hs ds xs ∧ ∀ ds' xs', RepL E.cl Hs ds' xs' → StRel E Hs (upd H a (.lst xs')) ks (r.set i (some (.lst ds'))) σ := by
  obtain ⟨As, S⟩ := S
  obtain ⟨pre, A, post, e, q1, _, _, q3⟩ := S.sl.at_ i hk
  obtain ⟨v, ev, o⟩ := q1 _ hd
  cases o with
  | ownV h0 h1 => cases h0
  | ownL h0 h1 h2 =>
    rename_i a xs
    refine ⟨a, xs, ev, h1, h2, fun ds' xs' rp => ?_⟩
    have ha : a ∈ As := by rw [e]; exact List.mem_append_right _ (List.mem_append_left _ (by simp))
    have nd := S.nd
    rw [e] at nd
    have hn : ∀ b ∈ pre ++ post, b ≠ a := fun b hb z => by
      subst z
      rcases List.mem_append.mp hb with w | w
      · exact (List.nodup_append.mp nd).2.2 _ w _ (List.mem_append_left _ (by simp)) rfl
      · exact (List.nodup_append.mp (List.nodup_append.mp nd).2.1).2.2 _ (by simp) _ w rfl
    have z := q3 Hs (upd H a (.lst xs')) (Same.refl _) (fun b hb => upd_ne (hn b hb)) (.own n) (.lst ds') (.ref a) [a] (.ownL h0 upd_same rp)
    have e1 : ks.set i (.own n) = ks := by
      obtain ⟨h, e2⟩ := List.getElem?_eq_some_iff.mp hk
      rw [← e2, List.set_getElem_self]
    have e3 : σ.set i (some (.ref a)) = σ := by
      obtain ⟨h, e2⟩ := List.getElem?_eq_some_iff.mp ev
      rw [← e2, List.set_getElem_self]
    rw [e1, e3] at z
    have dz := S.dis a ha
    refine ⟨_, z, nd, fun b hb => S.dis b (by rw [e]; exact hb), S.es, ⟨fun b u q nt => ?_⟩, ⟨fun b u q nt => ?_⟩, S.new, fun b q => ?_, fun P z => tab_mut h1 P (S.tb P z)⟩
    · have : b ≠ a := fun w => by rw [w, dz.1] at q; cases q
      rw [upd_ne this] at nt ⊢
      exact S.sub.k _ _ q nt
    · have : b ≠ a := fun w => by rw [w, dz.2] at q; cases q
      rw [upd_ne this] at nt ⊢
      exact S.eb.k _ _ q nt
    · have : b ≠ a := fun w => by rw [w, upd_same] at q; cases q
      rw [upd_ne this] at q
      exact S.dom _ q
/-- an owned value is frozen where it lies -/
theorem StRel.freeze {i : Nat} {k : Kd} (S : StRel E Hs H ks r σ) (hk : ks[i]? = some k) (hf : k = .own none) : ∃ Hs2, StRel E Hs2 H (ks.set i .val) r σ := by
  subst hf
  obtain ⟨As, S⟩ := S
  cases hr : r[i]? with
  | none =>
    have l := S.sl.len
    have hi : i < ks.length := (List.getElem?_eq_some_iff.mp hk).1
    have : r.length ≤ i := List.getElem?_eq_none_iff.mp hr
    omega
  | some o =>
    obtain ⟨pre, A, post, e, q1, q2, q4, q3⟩ := S.sl.at_ i hk
    have e5 : r.set i o = r := by
      obtain ⟨h, e2⟩ := List.getElem?_eq_some_iff.mp hr
      rw [← e2, List.set_getElem_self]
    cases o with
    | none =>
      have l := S.sl.len
      have hi : i < σ.length := by rw [l.2]; exact (List.getElem?_eq_some_iff.mp hk).1
      have z := q4 .val σ[i]
      rw [e5, List.set_getElem_self] at z
      have sub : (pre ++ post).Sublist As := by
        rw [e]
        exact List.Sublist.append (List.Sublist.refl _) (List.sublist_append_right _ _)
      exact ⟨Hs, _, z, S.nd.sublist sub, fun a ha => S.dis a (sub.subset ha), S.es, S.sub, S.eb, S.new, S.dom, S.tb⟩
    | some d =>
      obtain ⟨v, ev, o⟩ := q1 d hr
      have e3 : σ.set i (some v) = σ := by
        obtain ⟨h, e2⟩ := List.getElem?_eq_some_iff.mp ev
        rw [← e2, List.set_getElem_self]
      have nd := S.nd
      rw [e] at nd
      have nA : ∀ a ∈ A, E.h a = none := by
        cases o with
        | ownL h0 h1 h2 => intro a ha; simp at ha; subst ha; exact h0.1
        | ownK h0 h1 h2 => intro a ha; simp at ha; subst ha; exact h0.1
        | ownV h0 h1 => intro a ha; cases ha
      have inA : ∀ a ∈ A, a ∈ As := fun a ha => by rw [e]; exact List.mem_append_right _ (List.mem_append_left _ ha)
      have pS : Same Hs (plus Hs H A) := plus_same fun a ha => (S.dis a (inA a ha)).1
      have rp : Rep E.cl (plus Hs H A) d v := ORep.freeze pS _ _ _ _ rfl (fun a ha => by unfold plus; rw [if_pos ha]) o
      have z := q3 (plus Hs H A) H pS (fun _ _ => rfl) .val d v [] (.val rp)
      rw [e5, e3] at z
      have sub : (pre ++ ([] ++ post)).Sublist As := by
        rw [e]
        exact List.Sublist.append (List.Sublist.refl _) (by rw [List.nil_append]; exact List.sublist_append_right _ _)
      refine ⟨plus Hs H A, _, z, S.nd.sublist sub, fun a ha => ⟨?_, (S.dis a (sub.subset ha)).2⟩, S.es.trans pS, plus_sub S.sub, S.eb, fun a q => ?_, S.dom, S.tb⟩
      · have hn : a ∉ A := fun w => by
          rcases List.mem_append.mp ha with u | u
          · exact (List.nodup_append.mp nd).2.2 _ u _ (List.mem_append_left _ w) rfl
          · exact (List.nodup_append.mp (List.nodup_append.mp nd).2.1).2.2 _ w _ (by simpa using u) rfl
        unfold plus
        rw [if_neg hn]
        exact (S.dis a (sub.subset ha)).1
      · unfold plus at q
        split at q
        · rename_i w
          exact .inr (nA a w)
        · exact S.new a q
/-- another bound of what is stable -/
def En.at_ (E : En) (s : Hp) : En := { E with s := s }
theorem Slots.env {E E' : En} (h1 : E'.cl = E.cl) (h2 : E'.b = E.b) (h3 : E'.h = E.h) : ∀ {ks : List Kd} {r : Sl} {σ : L2.St} {As : List Addr}, Slots E Hs H ks r σ As → Slots E' Hs H ks r σ As
  | _, _, _, _, .nil => .nil
  | _, _, _, _, .skip h => .skip (Slots.env h1 h2 h3 h)
  | _, _, _, _, .cons o h => .cons (by unfold En.N at *; rw [h1, h2, h3]; exact o) (Slots.env h1 h2 h3 h)
theorem StRel.down (S : StRel E Hs H ks r σ) : StRel (E.at_ Hs) Hs H ks r σ := by
  obtain ⟨As, S⟩ := S
  exact ⟨As, Slots.env (E := E) (E' := E.at_ Hs) rfl rfl rfl S.sl, S.nd, S.dis, Same.refl _, S.sub, S.eb, fun a z => .inl z, S.dom, S.tb⟩
theorem StRel.up {Hs1 : Hp} (es : Same E.s Hs1) (nw : ∀ a, Hs1 a ≠ none → E.s a ≠ none ∨ E.h a = none) (S : StRel (E.at_ Hs1) Hs H ks r σ) : StRel E Hs H ks r σ := by
  obtain ⟨As, S⟩ := S
  refine ⟨As, Slots.env (E := E.at_ Hs1) (E' := E) rfl rfl rfl S.sl, S.nd, S.dis, es.trans S.es, S.sub, S.eb, fun a z => ?_, S.dom, S.tb⟩
  rcases S.new a z with q | q
  · exact nw a q
  · exact .inr q
theorem StRel.facts (S : StRel E Hs H ks r σ) : Same E.s Hs ∧ Same E.b H ∧ (∀ a, Hs a ≠ none → E.s a ≠ none ∨ E.h a = none) ∧ ∀ P, LamX.TabS E.h P lamQ → LamX.TabS H P lamQ := let ⟨_, s⟩ := S; ⟨s.es, s.eb, s.new, s.tb⟩
end

def PostS (E : En) (ks : List Kd) (kr : Kd) (fin : List Kd → Prop) (W : WX) (Dn : Ends) : O → Prop
  | .stuck => False
  | .nx r => ∀ Hs H σ, StRel E Hs H ks r σ → Dn.nx σ H
  | .rt d r => ∀ Hs H σ v ks2, fin ks2 → StRel E Hs H (kr :: ks2) (some d :: r) (some v :: σ) → Dn.rt v H
  | .exc x r => ∀ Hs H σ c dd ks2, fin ks2 → StRel E Hs H ks2 r σ → XRep E.cl Hs H x c dd → W c dd σ H
/-- .. kr what a return hands out, fin what is asked of the slots at the def's end -/
structure SS [md : Md] (X : Cx) (E : En) (kr : Kd) (fin : List Kd → Prop) (ks : List Kd) (st : Stmt) (m : Sl → O) (ks' : List Kd) : Prop where
  run : ∀ (Hs H : Hp) (r : Sl) (σ : L2.St) (W : WX) (Dn : Ends), Takes X W → StRel E Hs H ks r σ → PostS E ks' kr fin W Dn (m r) → WSx X st Dn σ H
structure SB [md : Md] (X : Cx) (E : En) (kr : Kd) (fin : List Kd → Prop) (ks : List Kd) (st : List Stmt) (m : Sl → O) (ks' : List Kd) : Prop where
  run : ∀ (Hs H : Hp) (r : Sl) (σ : L2.St) (W : WX) (Dn : Ends), Takes X W → StRel E Hs H ks r σ → PostS E ks' kr fin W Dn (m r) → WSs X st Dn σ H
@[simp] def mNil : Sl → O := .nx
@[simp] def mSeq (m1 m2 : Sl → O) : Sl → O := fun r => match m1 r with
  | .nx r' => m2 r'
  | o => o
/-- behind an expression -/
@[simp] def onR {α : Type} (x : R α) (r : Sl) (k : α → O) : O := match x with
  | .ok a => k a
  | .exc x => .exc x r
  | .stuck => .stuck
section
variable {X : Cx} {E : En} {kr : Kd} {fin : List Kd → Prop} {ks ks' ks1 ks2 : List Kd} {st : Stmt} {sts : List Stmt} {m m1 m2 : Sl → O} {e : Expr} {g : Sl → R D} {pos : Pos}
theorem sb_nil : SB X E kr fin ks [] mNil ks := ⟨fun Hs H r σ W Dn tk S P => wss_of pss_nil (P Hs H σ S)⟩
/-- ahead of a block slot i is frozen -/
theorem sb_frz {i : Nat} (h : SB X E kr fin (ks.set i .val) sts m ks') (hk : ks[i]? = some (.own none) := by rfl) : SB X E kr fin ks sts m ks' := by
  refine ⟨fun Hs H r σ W Dn tk S P => ?_⟩
  obtain ⟨Hs2, S2⟩ := S.freeze hk rfl
  exact h.run _ _ _ _ _ _ tk S2 P
theorem sb_cons (h1 : SS X E kr fin ks st m1 ks1) (h2 : SB X E kr fin ks1 sts m2 ks2) : SB X E kr fin ks (st :: sts) (mSeq m1 m2) ks2 := by
  refine ⟨fun Hs H r σ W Dn tk S P => ?_⟩
  refine wss_of (pss_cons ps_ws pss_ws) ?_
  refine h1.run _ _ _ _ _ _ tk S ?_
  unfold mSeq at P
  cases q : m1 r with
  | stuck => rw [q] at P; exact P
  | nx r' =>
    rw [q] at P
    exact fun Hs' H' σ' S' => h2.run _ _ _ _ _ _ tk S' P
  | rt d r' => rw [q] at P; exact P
  | exc x r' => rw [q] at P; exact P
/-- what an expression asks within a statement -/
theorem Post.ofS {k : Kd} {Hs H : Hp} {r : Sl} {σ : L2.St} {W : WX} {Dn : Ends} {x : R D} {kk : D → O} {Q1 : VK} (hf : fin ks) (S : StRel E Hs H ks r σ) (P : PostS E ks' kr fin W Dn (onR x r kk))
    (h : ∀ d v Hs' H', x = .ok d → Grow Hs H Hs' H' → RK E.cl k H Hs' H' d v → PostS E ks' kr fin W Dn (kk d) → Q1 v H') : Post E.cl k Hs H Q1 (fun c dd H' => W c dd σ H') x := by
  cases x with
  | stuck => exact P
  | exc x => exact fun c dd Hs' H' g z => P Hs' H' σ c dd ks hf (S.grow g) z
  | ok d => exact fun v Hs' H' g rk => h d v Hs' H' rfl g rk P
@[simp] def mSet (i : Nat) (g : Sl → R D) : Sl → O := fun r => onR (g r) r fun d => .nx (r.set i (some d))
/-- x = e -/
theorem ss_set {i : Nat} {k k0 : Kd} {x : Str} {pos' : Pos} (hN : X.N.Nodup) (he : SE X E ks k e g) (hf : fin ks := by trivial) (hk : ks[i]? = some k0 := by rfl) (fk : k.fine = true := by rfl) (hi : X.N[i]? = some x := by rfl) (hx : Loc X.env.scope x := by first | exact Or.inl rfl | exact Or.inr rfl)
    (hs : swapsWith e (some (.Name x pos')) pos.line X.env = pure false := by rfl) (hfn : X.fn x = true ∨ X.env.scope.names.lookup x = some .local := by first | exact .inl rfl | exact .inr rfl | assumption) :
    SS X E kr fin ks (.Assign [.Name x pos'] e pos) (mSet i g) (ks.set i k) := by
  refine ⟨fun Hs H r σ W Dn tk S P => ?_⟩
  refine ws_of (ps_set hN hi hx pe_we hs hfn) ?_
  exact he.run _ _ _ _ _ _ tk S (Post.ofS hf S P fun d v Hs' H' e1 g1 k1 P1 => P1 Hs' H' _ (S.putK g1 hk fk k1))
/-- x = [..] on one line, x a local -/
theorem ss_setLc {i : Nat} {k0 : Kd} {y : Str} {py : Pos} {elt tg iter : Expr} {ifs : List Expr} {scope : Scope} {spos : Pos} {t : Tg} {gi : Sl → R (List D)} {tt : Sl → R Bool} {ge : Sl → R D}
    (own : List (Str × Nat)) (hc : X.calm = true) (hN : X.N.Nodup) (hi : SI X E ks false tg iter gi) (ok : BlkOk X.N X.env.scope scope own) (hv : ∀ i ∈ own.map (·.2), i < ks.length) (hm : ∀ i ∈ t.is, i ∈ own.map (·.2))
    (hg : ∀ (s : Shared) (H : Hp) (C : Addr) (cl : List (Str × Addr)) (fp : List Addr), SG (X.blk s H scope (compEnvC scope cl C X.env) fp) tg t)
    (ht : ∀ (s : Shared) (H : Hp) (C : Addr) (cl : List (Str × Addr)) (fp : List Addr), SP1 (X.blk s H scope (compEnvC scope cl C X.env) fp) E (setK (wipeK ks (own.map (·.2))) t.is) ifs tt)
    (he : ∀ (s : Shared) (H : Hp) (C : Addr) (cl : List (Str × Addr)) (fp : List Addr), SE (X.blk s H scope (compEnvC scope cl C X.env) fp) E (setK (wipeK ks (own.map (·.2))) t.is) .val elt ge)
    (hsw : swapsWith (.ListComp elt [⟨tg, iter, ifs, 0⟩] scope pos) (some (.Name y py)) spos.line X.env = pure true) (hf : fin ks := by trivial) (hk : ks[i]? = some k0 := by rfl) (hy : X.N[i]? = some y := by rfl) (hyl : X.env.scope.names.lookup y = some .local := by rfl)
    (hs : ∀ x, foldedSetIterable iter X.env x = pure x := by intro _; rfl) :
    SS X E kr fin ks (.Assign [.Name y py] (.ListComp elt [⟨tg, iter, ifs, 0⟩] scope pos) spos) (mSet i (gComp gi t (own.map (·.2)) tt ge)) (ks.set i (.own none)) := by
  refine ⟨fun Hs H r σ W Dn tk S P => ?_⟩
  refine ws_of (ps_setLc (i := i) hc hN hy hyl hsw pi_wi ok pg_rd pts_rd pe_rd hs) ?_
  exact comp_read hi hv hm hg ht he tk S (Post.ofS (k := .own none) hf S P fun d v Hs' H' e1 g1 k1 P1 => P1 Hs' H' _ (S.putK g1 hk rfl k1))
@[simp] def mRet (g : Sl → R D) : Sl → O := fun r => onR (g r) r fun d => .rt d r
theorem ss_ret (he : SE X E ks kr e g) (hf : fin ks := by trivial) (fk : kr.fine = true := by rfl) : SS X E kr fin ks (.Return (some e) pos) (mRet g) ks' := by
  refine ⟨fun Hs H r σ W Dn tk S P => ?_⟩
  refine ws_of (ps_ret pe_we) ?_
  exact he.run _ _ _ _ _ _ tk S (Post.ofS hf S P fun d v Hs' H' e1 g1 k1 P1 => P1 Hs' H' σ v ks hf (S.push g1 fk k1))
@[simp] def mRetV (i : Nat) : Sl → O := fun r => match r[i]? with
  | some (some d) => .rt d (r.set i none)
  | _ => .stuck
theorem ss_retV {i : Nat} {x : Str} {pos' : Pos} (hf : fin ks := by trivial) (hk : ks[i]? = some kr := by rfl) (hN : X.N[i]? = some x := by rfl) (hv : Vis X.env.scope x := by first | exact Or.inl rfl | exact Or.inr (Or.inl rfl) | exact Or.inr (Or.inr rfl))
    (hq : NmOk x) : SS X E kr fin ks (.Return (some (.Name x pos')) pos) (mRetV i) ks' := by
  refine ⟨fun Hs H r σ W Dn tk S P => ?_⟩
  refine ws_of (ps_ret (pe_var hN hv hq.1 hq.2)) ?_
  unfold mRetV at P
  split at P
  · rename_i d q
    obtain ⟨v, ev, S2⟩ := S.take hk q
    exact ⟨v, ev, P Hs H σ v ks hf S2⟩
  · exact P.elim
@[simp] def mExpr (g : Sl → R D) : Sl → O := fun r => onR (g r) r fun _ => .nx r
theorem ss_expr (he : SE X E ks .val e g) (hf : fin ks := by trivial) (hs : swapsWith e none pos.line X.env = pure false := by rfl) : SS X E kr fin ks (.Expr e pos) (mExpr g) ks := by
  refine ⟨fun Hs H r σ W Dn tk S P => ?_⟩
  refine ws_of (ps_expr pe_we hs) ?_
  exact he.run _ _ _ _ _ _ tk S (Post.ofS hf S P fun d v Hs' H' e1 g1 k1 P1 => P1 Hs' H' σ (S.grow g1))
@[simp] def mIf (tc : Sl → R Bool) (m1 m2 : Sl → O) : Sl → O := fun r => onR (tc r) r fun b => if b then m1 r else m2 r
theorem PostT.ofS {Hs H : Hp} {r : Sl} {σ : L2.St} {W : WX} {Dn : Ends} {x : R Bool} {kk : Bool → O} {Q1 : Bool → Hp → Prop} (hf : fin ks) (S : StRel E Hs H ks r σ) (P : PostS E ks' kr fin W Dn (onR x r kk))
    (h : ∀ b Hs' H', x = .ok b → Grow Hs H Hs' H' → PostS E ks' kr fin W Dn (kk b) → Q1 b H') : PostT E.cl Hs H Q1 (fun c dd H' => W c dd σ H') x := by
  cases x with
  | stuck => exact P
  | exc x => exact fun c dd Hs' H' g z => P Hs' H' σ c dd ks hf (S.grow g) z
  | ok d => exact fun Hs' H' g => h d Hs' H' rfl g P
theorem ss_if {c : Expr} {a b : List Stmt} {tc : Sl → R Bool} (hc : ST X E ks c tc) (ha : SB X E kr fin ks a m1 ks') (hb : SB X E kr fin ks b m2 ks') (hf : fin ks := by trivial) : SS X E kr fin ks (.If c a b pos) (mIf tc m1 m2) ks' := by
  refine ⟨fun Hs H r σ W Dn tk S P => ?_⟩
  refine ws_of (ps_if pt_wt pss_ws pss_ws) ?_
  refine hc.run _ _ _ _ _ _ tk S (PostT.ofS hf S P fun x Hs' H' e1 g1 P1 => ?_)
  cases x with
  | true => exact iteT (ha.run _ _ _ _ _ _ tk (S.grow g1) P1)
  | false => exact iteF (hb.run _ _ _ _ _ _ tk (S.grow g1) P1)
def forL (t : Tg) (mb : Sl → O) : List D → Sl → O
  | [], r => .nx r
  | d :: ds, r => match t.un d with
    | .ok xs => (match mb (setD r t.is xs) with
      | .nx r' => forL t mb ds r'
      | o => o)
    | _ => .stuck
@[simp] def mFor (gi : Sl → R (List D)) (t : Tg) (mb : Sl → O) : Sl → O := fun r => onR (gi r) r fun ds => forL t mb ds r
theorem PostI.ofS {md : Bool} {Hs H : Hp} {r : Sl} {σ : L2.St} {W : WX} {Dn : Ends} {x : R (List D)} {kk : List D → O} {Q1 : It → Hp → Prop} (hf : fin ks) (S : StRel E Hs H ks r σ) (P : PostS E ks' kr fin W Dn (onR x r kk))
    (h : ∀ ds J Hs' H', x = .ok ds → Grow Hs H Hs' H' → ItOk E.cl J ds Hs' (bq E md H') → PostS E ks' kr fin W Dn (kk ds) → Q1 J H') : PostI E md Hs H Q1 (fun c dd H' => W c dd σ H') x := by
  cases x with
  | stuck => exact P
  | exc x => exact fun c dd Hs' H' g z => P Hs' H' σ c dd ks hf (S.grow g) z
  | ok d => exact fun J Hs' H' g i => h d J Hs' H' rfl g i P
theorem ss_for {tg iter : Expr} {body : List Stmt} {gi : Sl → R (List D)} {t : Tg} {mb : Sl → O} (hp : PassesOwn (model X.prog X.w) X.A X.env X.xe) (hc : X.calm = true) (hi : SI X E ks true tg iter gi) (hg : SG X tg t)
    (hb : ∀ s, SB X (E.at_ s) kr fin ks body mb ks) (hl : ∀ i ∈ t.is, i < ks.length) (hk : setK ks t.is = ks := by rfl) (hf : fin ks := by trivial)
    (hs : ∀ x, foldedSetIterable iter X.env x = pure x := by intro _; rfl) : SS X E kr fin ks (.For tg iter body [] pos) (mFor gi t mb) ks := by
  refine ⟨fun Hs H r σ W Dn tk S P => ?_⟩
  refine ws_of (ps_for hp hc pi_wi pg_wg pss_ws hs) ?_
  refine hi.run _ _ _ _ _ _ tk S (PostI.ofS hf S P fun ds J Hs1 H1 e1 g1 J1 P1 => ?_)
  have S1 := S.grow g1
  have F1 := S1.facts
  have D1 := S1.down
  refine ⟨fun i m σ' H' => m = ds.length - i ∧ i ≤ ds.length ∧ ∃ Hs' r', StRel (E.at_ Hs1) Hs' H' ks r' σ' ∧ PostS E ks kr fin W Dn (forL t mb (ds.drop i) r'),
    ⟨ds.length, by simp, Nat.zero_le _, Hs1, r, D1, P1⟩, ?_⟩
  rintro i m σ' H' ⟨rfl, hi', Hs', r', S', P'⟩
  have fs := S'.facts
  by_cases hlt : i < ds.length
  · refine .inr ⟨J1.go Hs' H' fs.1 S'.sub fs.2.1 i hlt, fun σ2 H2 => ∃ Hs2 r2, StRel (E.at_ Hs1) Hs2 H2 ks r2 σ2 ∧ PostS E ks kr fin W Dn (forL t mb (ds.drop (i + 1)) r2), ?_, ?_⟩
    · rintro σ2 H2 ⟨Hs2, r2, z1, z2⟩
      exact ⟨ds.length - (i + 1), by omega, rfl, hlt, Hs2, r2, z1, z2⟩
    · intro x H2 y
      have hd : ds[i]? = some ds[i] := by simp [hlt]
      obtain ⟨Hs2, g3, rx⟩ := J1.yld Hs' H' fs.1 S'.sub fs.2.1 i _ x H2 hd y
      rw [List.drop_eq_getElem_cons hlt] at P'
      dsimp only [forL] at P'
      cases q : t.un ds[i] with
      | stuck => rw [q] at P'; exact P'.elim
      | exc z => rw [q] at P'; exact P'.elim
      | ok xs =>
        rw [q] at P'
        dsimp only at P'
        refine hg.run E.cl Hs2 H2 _ _ x xs _ g3.sub rx q fun ys ry => ?_
        have S3 : StRel (E.at_ Hs1) Hs2 H2 (setK ks t.is) (setD r' t.is xs) (setV σ' t.is ys) := StRel.puts (S'.grow g3) hl (Tg.un_len q) ry
        rw [hk] at S3
        refine (hb Hs1).run _ _ _ _ W _ tk S3 ?_
        cases q2 : mb (setD r' t.is xs) with
        | stuck => rw [q2] at P'; exact P'
        | nx r2 =>
          rw [q2] at P'
          exact fun Hs4 H4 σ4 S4 => ⟨Hs4, r2, S4, P'⟩
        | rt d r2 =>
          rw [q2] at P'
          exact fun Hs4 H4 σ4 v ks2 z S4 => P' Hs4 H4 σ4 v ks2 z (S4.up F1.1 F1.2.2.1)
        | exc z r2 =>
          rw [q2] at P'
          exact fun Hs4 H4 σ4 c dd ks2 w S4 xr => P' Hs4 H4 σ4 c dd ks2 w (S4.up F1.1 F1.2.2.1) xr
  · have e : i = ds.length := by omega
    subst e
    rw [List.drop_length] at P'
    exact .inl ⟨J1.stop Hs' H' fs.1 S'.sub fs.2.1, P' Hs' H' σ' (S'.up F1.1 F1.2.2.1)⟩
def whileL (tc : Sl → R Bool) (mb : Sl → O) : Nat → Sl → O
  | 0, _ => .stuck
  | n + 1, r => onR (tc r) r fun b => if b then (match mb r with
    | .nx r' => whileL tc mb n r'
    | o => o) else .nx r
theorem ss_while {c : Expr} {body : List Stmt} {tc : Sl → R Bool} {mb : Sl → O} (n : Nat) (hp : PassesOwn (model X.prog X.w) X.A X.env X.xe) (hc : ST X E ks c tc) (hb : SB X E kr fin ks body mb ks) (hf : fin ks := by trivial) :
    SS X E kr fin ks (.While c body [] pos) (whileL tc mb n) ks := by
  refine ⟨fun Hs H r σ W Dn tk S P => ?_⟩
  refine ws_of (ps_while hp pt_wt pss_ws) ?_
  refine ⟨fun m σ' H' => ∃ Hs' r', StRel E Hs' H' ks r' σ' ∧ PostS E ks kr fin W Dn (whileL tc mb m r'), ⟨n, Hs, r, S, P⟩, ?_⟩
  rintro m σ' H' ⟨Hs', r', S', P'⟩
  cases m with
  | zero => exact P'.elim
  | succ m =>
    dsimp only [whileL] at P'
    refine hc.run _ _ _ _ _ _ tk S' (PostT.ofS hf S' P' fun x Hs2 H2 e1 g1 P1 => ?_)
    cases x with
    | false => exact iteF (P1 Hs2 H2 σ' (S'.grow g1))
    | true =>
      refine iteT ⟨fun σ3 H3 => ∃ Hs3 r3, StRel E Hs3 H3 ks r3 σ3 ∧ PostS E ks kr fin W Dn (whileL tc mb m r3), fun σ3 H3 ⟨Hs3, r3, z1, z2⟩ => ⟨m, Nat.lt_succ_self m, Hs3, r3, z1, z2⟩, ?_⟩
      refine hb.run _ _ _ _ W _ tk (S'.grow g1) ?_
      rw [if_pos rfl] at P1
      cases q2 : mb r' with
      | stuck => rw [q2] at P1; exact P1
      | nx r2 =>
        rw [q2] at P1
        exact fun Hs4 H4 σ4 S4 => ⟨Hs4, r2, S4, P1⟩
      | rt d r2 => rw [q2] at P1; exact P1
      | exc z r2 => rw [q2] at P1; exact P1
end
end VL
end

noncomputable section
namespace VL
open PySem PySem.Spec PyProof.Rows L2
variable {md : Md}

section
variable {X : Cx} {E : En} {kr : Kd} {fin : List Kd → Prop} {ks ks' : List Kd} {e : Expr} {g : Sl → R D} {pos : Pos}
theorem tyV_lst {K : PySem.W.Frag} {H : Hp} {a : Addr} {xs : List V} (h : H a = some (.lst xs)) : tyV K "list" (.ref a) H := .inl ⟨rfl, xs, SqL.of h⟩
@[simp] def mApp (i : Nat) (g : Sl → R D) : Sl → O := fun r => match r[i]? with
  | some (some (.lst ds)) => onR (g r) r fun d => if ds.length < szL then .nx (r.set i (some (.lst (ds ++ [d])))) else .stuck
  | _ => .stuck
/-- x.append(e) -/
theorem ss_append {i : Nat} {n : Option Addr} {x : Str} {p1 p2 p3 : Pos} (he : SE X E ks .val e g) (hf : fin ks := by trivial) (hk : ks[i]? = some (.own n) := by rfl) (hN : X.N[i]? = some x := by rfl) (hv : Vis X.env.scope x := by first | exact Or.inl rfl | exact Or.inr (Or.inl rfl) | exact Or.inr (Or.inr rfl))
    (hq : NmOk x)
    (hs : swapsWith (.Call (.Attribute (.Name x p1) "append" p2) [e] [] p3) none pos.line X.env = pure false := by rfl)
    (hbase : attributeBase (.Name x p1) "append" X.env (eval (.Name x p1) X.env) = eval (.Name x p1) X.env := by rfl)
    (hfew : ((backTo p3 (starEach [e] X.env)).all (fun x => !x.1) && (backToKw p3 (keywordEach [] X.env)).all (fun x => x.1.isSome)
      && decide ([e].length + ([] : List Keyword).length + (if ([] : List Keyword).isEmpty then 0 else 1) < 30)) = true := by rfl)
    (hline : (p2.endLine == p3.line) = true := by rfl) (hst : starEach [e] X.env = (false, eval e X.env) :: starEach [] X.env := by rfl) (hplain : (backTo p3 (starEach [] X.env)).any (·.1) = false := by rfl) :
    SS X E kr fin ks (.Expr (.Call (.Attribute (.Name x p1) "append" p2) [e] [] p3) pos) (mApp i g) ks := by
  refine ⟨fun Hs H r σ W Dn tk S P => ?_⟩
  refine ws_of (ps_expr (pe_bm PySem.F.plainAttrs_list PySem.F.slot_list_append PySem.F.type_list_append mt_append (pe_var hN hv hq.1 hq.2) (pa_cons pe_we pa_nil hst) hbase hfew hline hst hplain) hs) ?_
  unfold mApp at P
  split at P
  · rename_i ds q
    obtain ⟨a, xs, ea, h1, r1, _⟩ := S.mutL hk q
    refine ⟨.ref a, ea, tyV_lst h1, ?_⟩
    refine he.run _ _ _ _ _ _ tk S (Post.ofS hf S P fun d v Hs' H' e1 g1 k1 P1 => ?_)
    obtain ⟨a', xs', ea', h2, r2, up⟩ := (S.grow g1).mutL hk q
    rw [ea] at ea'
    cases ea'
    split at P1
    · rename_i hz
      exact ⟨a, xs', v, rfl, rfl, h2, by rw [szL_eq, r2.length]; exact hz, P1 _ _ _ (up _ _ (r2.app (.cons k1.rep .nil)))⟩
    · exact P1.elim
  · exact P.elim
@[simp] def mSetI (i : Nat) (gi g : Sl → R D) : Sl → O := fun r => match r[i]? with
  | some (some (.lst ds)) => onR (g r) r fun d => onR (noX (gi r)) r fun z => (match z with
    | .int k => (match ixN ds.length k with
      | some j => .nx (r.set i (some (.lst (ds.set j d))))
      | none => .stuck)
    | _ => .stuck)
  | _ => .stuck
/-- x[b] = e -/
theorem ss_setI {i : Nat} {n : Option Addr} {x : Str} {b : Expr} {gb : Sl → R D} {p1 p2 : Pos} (hb : SE X E ks .bor b gb) (he : SE X E ks .val e g) (hf : fin ks := by trivial) (hk : ks[i]? = some (.own n) := by rfl) (hN : X.N[i]? = some x := by rfl) (hv : Vis X.env.scope x := by first | exact Or.inl rfl | exact Or.inr (Or.inl rfl) | exact Or.inr (Or.inr rfl))
    (hq : NmOk x)
    (hs : swapsWithSole [.Subscript (.Name x p1) b p2] e pos.line X.env = pure false := by rfl) (hw : swappedStores [.Subscript (.Name x p1) b p2] e X.env = pure none := by rfl)
    (h1 : (assignEach [.Subscript (.Name x p1) b p2] X.env).map (·.2) = [assign (.Subscript (.Name x p1) b p2) X.env] := by rfl)
    (ha : ∀ v, assign (.Subscript (.Name x p1) b p2) X.env v = (do
      let ov ← holding [v] (eval (.Name x p1) X.env)
      let iv ← holding [v, ov] (eval b X.env)
      standAt p2
      holding [v, ov, iv] (setItem ov iv v)
      release [v, ov, iv] []) := by intro _; rfl) :
    SS X E kr fin ks (.Assign [.Subscript (.Name x p1) b p2] e pos) (mSetI i gb g) ks := by
  refine ⟨fun Hs H r σ W Dn tk S P => ?_⟩
  refine ws_of (ps_asg pe_we (pg_sub (pe_var hN hv hq.1 hq.2) pe_we set_list ha) hs hw h1) ?_
  unfold mSetI at P
  split at P
  · rename_i ds q
    refine he.run _ _ _ _ _ _ tk S (Post.ofS hf S P fun d v Hs' H' e1 g1 k1 P1 => ?_)
    have S1 := S.grow g1
    obtain ⟨a, xs, ea, h1, r1, _⟩ := S1.mutL hk q
    refine ⟨.ref a, ea, ?_⟩
    refine hb.run _ _ _ _ _ _ tk S1 ?_
    cases q1 : gb r with
    | stuck => rw [q1] at P1; exact P1.elim
    | exc z => rw [q1] at P1; exact P1.elim
    | ok z =>
      rw [q1] at P1
      dsimp only [onR, noX] at P1
      intro v2 Hs2 H2 g2 k2
      cases z <;> first | exact P1.elim | skip
      rename_i k
      cases k2.rb.intInv
      obtain ⟨a', xs', ea', h3, r3, up⟩ := (S1.grow g2).mutL hk q
      rw [ea] at ea'
      cases ea'
      cases q3 : ixN ds.length k with
      | none => simp only [q3] at P1; exact P1.elim
      | some j =>
        simp only [q3] at P1
        exact ⟨a, xs', k, j, rfl, rfl, h3, by rw [r3.length]; exact q3, P1 _ _ _ (up _ _ (r3.set j (Rep.same g2.s _ _ k1.rep)))⟩
  · exact P.elim
@[simp] def dIAdd : D → D → R D
  | .int i, .int j => .ok (.int (i + j))
  | _, _ => .stuck
@[simp] def mAugI (i : Nat) (f : D → D → R D) (g : Sl → R D) : Sl → O := fun r => match r[i]? with
  | some (some d0) => onR (g r) r fun d => onR (noX (f d0 d)) r fun z => .nx (r.set i (some z))
  | _ => .stuck
theorem ss_augI {i : Nat} {x : Str} {op : Operator} {f : Int → Int → Int} {fd : D → D → R D} {p1 : Pos} (hN : X.N.Nodup) (ho : PIp X op (ipI f)) (hfd : ∀ a b c, fd a b = .ok c → ∃ i j, a = .int i ∧ b = .int j ∧ c = .int (f i j)) (he : SE X E ks .bor e g) (hf : fin ks := by trivial) (hk : ks[i]? = some .val := by rfl)
    (hi : X.N[i]? = some x := by rfl) (hx : Loc X.env.scope x := by first | exact Or.inl rfl | exact Or.inr rfl) (hfn : X.fn x = true ∨ X.env.scope.names.lookup x = some .local := by first | exact .inl rfl | exact .inr rfl | assumption) :
    SS X E kr fin ks (.AugAssign (.Name x p1) op e pos) (mAugI i fd g) ks := by
  refine ⟨fun Hs H r σ W Dn tk S P => ?_⟩
  refine ws_of (ps_aug (i := i) hN hi hx pe_we ho hfn) ?_
  unfold mAugI at P
  split at P
  · rename_i d0 q
    obtain ⟨v0, A, e0, o0⟩ := S.get hk q
    refine ⟨v0, e0, ?_⟩
    refine he.run _ _ _ _ _ _ tk S (Post.ofS hf S P fun d v Hs' H' e1 g1 k1 P1 => ?_)
    cases q2 : fd d0 d with
    | stuck => rw [q2] at P1; exact P1.elim
    | exc z => rw [q2] at P1; exact P1.elim
    | ok z =>
      rw [q2] at P1
      obtain ⟨n, m, rfl, rfl, rfl⟩ := hfd _ _ _ q2
      cases o0 with
      | val r0 =>
        cases r0
        cases k1.rb.intInv
        have S2 := (S.grow g1).putK (Grow.refl g1.sub) hk rfl (RK.val (H0 := H') (.int (f n m)))
        have ek : ks.set i Kd.val = ks := by
          obtain ⟨h, e2⟩ := List.getElem?_eq_some_iff.mp hk
          rw [← e2, List.set_getElem_self]
        rw [ek] at S2
        exact ⟨n, m, rfl, rfl, P1 _ _ _ S2⟩
  · exact P.elim
theorem ss_iadd {i : Nat} {x : Str} {p1 : Pos} (hN : X.N.Nodup) (he : SE X E ks .bor e g) (hf : fin ks := by trivial) (hk : ks[i]? = some .val := by rfl)
    (hi : X.N[i]? = some x := by rfl) (hx : Loc X.env.scope x := by first | exact Or.inl rfl | exact Or.inr rfl) (hfn : X.fn x = true ∨ X.env.scope.names.lookup x = some .local := by first | exact .inl rfl | exact .inr rfl | assumption) :
    SS X E kr fin ks (.AugAssign (.Name x p1) .Add e pos) (mAugI i dIAdd g) ks :=
  ss_augI hN ip_add (fun a b c h => by cases a <;> cases b <;> first | (cases h; done) | (cases h; exact ⟨_, _, rfl, rfl, rfl⟩)) he hf hk hi hx hfn
theorem ss_isub {i : Nat} {x : Str} {p1 : Pos} (hN : X.N.Nodup) (he : SE X E ks .bor e g) (hf : fin ks := by trivial) (hk : ks[i]? = some .val := by rfl)
    (hi : X.N[i]? = some x := by rfl) (hx : Loc X.env.scope x := by first | exact Or.inl rfl | exact Or.inr rfl) (hfn : X.fn x = true ∨ X.env.scope.names.lookup x = some .local := by first | exact .inl rfl | exact .inr rfl | assumption) :
    SS X E kr fin ks (.AugAssign (.Name x p1) .Sub e pos) (mAugI i dSub g) ks :=
  ss_augI hN ip_sub (fun a b c h => by cases a <;> cases b <;> first | (cases h; done) | (cases h; exact ⟨_, _, rfl, rfl, rfl⟩)) he hf hk hi hx hfn
/-- x += e, an owned list -/
@[simp] def mExt (i : Nat) (g : Sl → R D) : Sl → O := fun r => match r[i]? with
  | some (some (.lst ds)) => onR (g r) r fun d => (match d with
    | .lst es => if ds.length + es.length ≤ szL then .nx (r.set i (some (.lst (ds ++ es)))) else .stuck
    | _ => .stuck)
  | _ => .stuck
theorem pip_of {op : Operator} {t : R2} (h : OpR X (inplaceOp op) t) : PIp X op t := fun pins s σ H x y v u Q I rx ry q => h pins s σ H x y v u Q I rx ry q
theorem ss_ext {i : Nat} {n : Option Addr} {x : Str} {p1 : Pos} (hN : X.N.Nodup) (he : SE X E ks .val e g) (hf : fin ks := by trivial) (hk : ks[i]? = some (.own n) := by rfl)
    (hi : X.N[i]? = some x := by rfl) (hx : Loc X.env.scope x := by first | exact Or.inl rfl | exact Or.inr rfl) (hfn : X.fn x = true ∨ X.env.scope.names.lookup x = some .local := by first | exact .inl rfl | exact .inr rfl | assumption) :
    SS X E kr fin ks (.AugAssign (.Name x p1) .Add e pos) (mExt i g) ks := by
  refine ⟨fun Hs H r σ W Dn tk S P => ?_⟩
  refine ws_of (ps_aug (i := i) hN hi hx pe_we (pip_of iop_ext) hfn) ?_
  unfold mExt at P
  split at P
  · rename_i ds q
    obtain ⟨a, xs, ea, h1, r1, _⟩ := S.mutL hk q
    refine ⟨.ref a, ea, ?_⟩
    refine he.run _ _ _ _ _ _ tk S (Post.ofS hf S P fun d v Hs' H' e1 g1 k1 P1 => ?_)
    obtain ⟨a', xs', ea', h2, r2, up⟩ := (S.grow g1).mutL hk q
    rw [ea] at ea'
    cases ea'
    cases d <;> first | exact P1.elim | skip
    rename_i es
    dsimp only at P1
    split at P1
    · rename_i hz
      have kr1 := k1.rep
      cases kr1 with
      | lst h3 r3 =>
        have eσ : σ.set i (some (.ref a)) = σ := by
          obtain ⟨h, e2⟩ := List.getElem?_eq_some_iff.mp ea
          rw [← e2, List.set_getElem_self]
        refine ⟨a, _, xs', _, rfl, rfl, h2, g1.sub.at _ _ h3, by rw [szL_eq, r2.length, r3.length]; exact hz, ?_⟩
        show Dn.nx (σ.set i (some (.ref a))) _
        rw [eσ]
        exact P1 _ _ _ (up _ _ (r2.app r3))
    · exact P1.elim
  · exact P.elim
end

theorem fun_okM {P : Program} {w : World} {K : PySem.W.Frag} {mg : Str → Option Value} {base : Heap} {x qual : Str} {st : Stmt} {f : Addr} {fd : FuncData} {N ps : List Str} {k : Nat} {sp : Sp} (F : Fun K x qual st f fd) (S : FnScope N ps (defScope st)) (len : ∀ vs H Q E, sp vs H Q E → vs.length = ps.length)
    (hbody : ∀ (cdv : Value) (A : Around) (outer : List Env) (s : Shared) (H : Hp) (vs : List V) (Q : VK) (E : XK), Room k (A.deeper (envOfC qual (defScope st) s.heap.objs.size f cdv)) → sp vs H Q E →
      ∃ t, PSs (cxOf (CXM P w) P w K mg base N qual (defScope st) f cdv A outer s H E) (defBody st) t ∧ t { nx := fun _ H' => Q .non H', rt := Q } (start N vs) H) : FnOk P w K mg base (CXM P w) (k + 1) f fd ps sp := by
  obtain ⟨oc, od, kV, doc, pm, an, cdv, ct, osl, rfl, lk, hcd⟩ := F.ex
  exact fn_of lk hcd S len fun A outer s H vs Q E hr hsp => hbody cdv A outer s H vs Q E hr hsp

theorem ps_raiseM {X : Cx} {W : WX} {e : Expr} {t : L2.St → Hp → XK → Prop} {pos : Pos} (hc : X.calm = true) (tk : Takes X W) (hz : L2.PMk X e t) (hn : L2N.PMk X e t) : PS X (.Raise (some e) none pos) (fun _ σ H => t σ H fun cls d H' => W cls d σ H') := by
  obtain ⟨n⟩ := md
  cases n
  · exact L2.ps_raise hc tk hz
  · exact L2N.ps_raise hc tk hn
/-- C(e, ..), its context None -/
theorem pmk_oexN {X : Cx} {e : Expr} {es : List Expr} {ta : TA} {p pos : Pos} {CX : CXT} {x : Str} {C fI : Addr} {k : Nat} {fd : FuncData} {ps : List Str} {sp : Sp} (T : OexC X.K C) (iC : PySem.W.findIn X.K (.ref C) "__init__" = some (some (.ref fI))) (tI : PySem.W.typeIn X.K (.ref fI) = some (.type "function"))
    (F1 : FnOk X.prog X.w X.K X.mg X.base CX k fI fd ps sp) (hr : Room (k + 1) X.A) (hb : Binds X.K fd ps []) (hx : Passes CX X (fun _ _ _ => False)) (hg : Gl X x) (hm : X.mg x = some (.ref C)) (ha : PA X (e :: es) ta)
    (hdb : (x == ("__debug__" : Str)) = false := by decide) (he : starEach (e :: es) X.env = (false, eval e X.env) :: starEach es X.env := by rfl) (hpl : (backTo pos (starEach es X.env)).any (·.1) = false := by rfl) :
    L2N.PMk X (.Call (.Name x p) (e :: es) [] pos) (tMkO C sp [] ta) := by
  intro pins s σ H Q I h
  obtain ⟨nm, q, N, bs, bm, sn, sub, ab, col, dd, k0, k1, k2, k3, k5, hC, hbm⟩ := T.cls
  refine wpAny_Call_Name_kw (ld_glob I hg hm ?_ hdb)
  refine PySem.W.callWith_K (h₀ := X.base) I.ok.mod.kin T.kC (thn (ha.run pos pins s σ H _ I h) fun us s1 ⟨vs, H1, I1, rv, hz, want⟩ => ⟨I1.kIn, ?_⟩) he hpl
  show wpAny _ _ (call (.ref C) us) _ _ _
  obtain ⟨hp, g, dr, tk, os⟩ := s1
  have lesz : hp.objs.size ≤ hp.objs.size + 1 := Nat.le_succ _
  have new1 : H1 (hp.objs.size + 1) = none := I1.hok.fresh lesz
  have hq := want (hp.objs.size + 1) new1
  rw [List.append_nil] at hq
  have keeps : ∀ b o, hp.get? b = some o → ((hp.push (PySem.W.kdv_tup us)).push (PySem.HandSPX.excO C hp.objs.size)).get? b = some o := fun b o e => Heap.get?_push_of_some _ (Heap.get?_push_of_some _ e)
  have there : ((hp.push (PySem.W.kdv_tup us)).push (PySem.HandSPX.excO C hp.objs.size)).get? (hp.objs.size + 1) = some (PySem.HandSPX.excO C hp.objs.size) := by heap_get
  have I2 : Inv X pins σ (upd H1 (hp.objs.size + 1) (exo (hp.objs.size + 1) C none)) ⟨(hp.push (PySem.W.kdv_tup us)).push (PySem.HandSPX.excO C hp.objs.size), g, dr, tk, os⟩ :=
    I1.laid (t' := tk) (a := hp.objs.size + 1) (o := exo (hp.objs.size + 1) C none) (h' := (hp.push (PySem.W.kdv_tup us)).push (PySem.HandSPX.excO C hp.objs.size)) keeps lesz (exo_ok there)
  have rv2 : Vals (V.ref (hp.objs.size + 1) :: vs) (Value.ref (hp.objs.size + 1) :: us) := .cons rfl rv
  have len2 : (Value.ref (hp.objs.size + 1) :: us ++ []).length = ps.length := by
    have e := rv2.length
    rw [F1.len _ _ _ _ hq] at e
    rw [List.append_nil]
    exact e.symm
  have short : us.length ≤ sizeLine := by
    rw [← Paired.length rv, sizeLine_eq]
    omega
  have bound := hb _ (Value.ref (hp.objs.size + 1) :: us) I2.kIn len2
  rw [List.append_nil] at bound
  refine wpAny_call (PySem.HandSPX.call_own F.excBase_ValueError (fun Y => PySem.HandSPX.refsVE_contains Y bm hbm) (I1.kIn _ _ hC) (PySem.W.looks_findIn I1.kIn iC) (fun self => PySem.W.bind_fn I1.kIn self tI) short
    (codeAny_mono (F1.run _ X.stack _ _ ⟨Value.ref (hp.objs.size + 1) :: us, []⟩ (Value.ref (hp.objs.size + 1) :: us) _ _ (fun _ _ _ => False) (hr.make C us []) (I2.env0.make C us []) bound rv2 hq) fun r s' ended => ?_))
  cases r with
  | error er => exact hx pins σ _ _ er s' I2 ended
  | ok fl =>
    cases fl with
    | next => exact ended.elim
    | brk => exact ended.elim
    | cont => exact ended.elim
    | ret u =>
      obtain ⟨v, H2, os2, bare2, un2, hok2, ru, ev, d, fs, ea, ed, hd1, q2⟩ := ended
      subst ev
      obtain ⟨h2, g2, d2, t2, os'⟩ := s'
      obtain ⟨t0, G, J, kG, ge, hoe, na⟩ := mk_end0 (d2 := d2) (t2 := t2) I1 lesz keeps un2 hok2 os2 bare2 ea ed hd1
      refine ⟨ru, ⟨hp.objs.size + 1, _, _, ⟨G, g2, d2, t2, os'⟩, _, .ref C, some d, rfl, J, kG, ge, hoe, ⟨rfl, rfl, fun vs hv => ?_⟩, rfl, rfl, na, rfl, bare2, raises_own T.exC T.tyC, q2⟩⟩
      cases hv
      rfl

section
variable {X : Cx} {E : En} {kr : Kd} {fin : List Kd → Prop} {ks ks' : List Kd} {e : Expr} {g : Sl → R D} {pos : Pos}
@[simp] def mRaise (C : Str) : Sl → O := fun r => .exc ⟨C, none⟩ r
/-- what is known of an own class without __init__ -/
structure XPlain (K : PySem.W.Frag) (mg : Str → Option Value) (cl : Cl) (C : Str) : Prop where
  ex : ∃ a, cl.f C = some a ∧ mg C = some (.ref a) ∧ PySem.W.excIn K a [.type "ValueError", .type "Exception", .type "BaseException", .type "object"] "ValueError.__new__" = true ∧ PySem.W.keepIn K (.ref a) = true ∧
    PySem.W.subIn K (.ref a) (.type "BaseException") = some true ∧ PySem.W.typeIn K (.ref a) = some (.type "type")
theorem ss_raise {C m : Str} {j : Nat} {p1 p2 p3 : Pos} (hc : X.calm = true) (T : XPlain X.K X.mg E.cl C) (hq : NmOk C) (hg : Gl X C := by rfl) (hf : fin ks := by trivial) :
    SS X E kr fin ks (.Raise (some (.Call (.Name C p1) [.Constant (.str m) j p2] [] p3)) none pos) (mRaise C) ks' := by
  refine ⟨fun Hs H r σ W Dn tk S P => ?_⟩
  obtain ⟨a, h1, h2, h3, h4, h5, h6⟩ := T.ex
  exact ws_of (ps_raiseM hc tk (L2.pmk_own PySem.F.excBase_ValueError h3 h2 h4 (raises_own h5 h6) hg hq.1) (L2N.pmk_own PySem.F.excBase_ValueError h3 h2 h4 (raises_own h5 h6) hg hq.1)) (P Hs H σ _ _ ks hf S ⟨a, h1, rfl, rfl⟩)
/-- an own class whose __init__ stores its one argument in the field «at» -/
structure XAt (P : Program) (w : World) (K : PySem.W.Frag) (mg : Str → Option Value) (base : Heap) (cl : Cl) (C : Str) (k : Nat) : Prop where
  ex : ∃ a fI fd ps, cl.f C = some a ∧ mg C = some (.ref a) ∧ OexC K a ∧ PySem.W.findIn K (.ref a) "__init__" = some (some (.ref fI)) ∧ PySem.W.typeIn K (.ref fI) = some (.type "function") ∧ Binds K fd ps [] ∧
    FnOk P w K mg base CX0 k fI fd ps (fun vs H Q _ => ∃ x v, vs = [.ref x, v] ∧ H x = some (exo x a none) ∧ ∀ dx, H dx = none → dx ≠ x → Q .non (upd (upd H x (exo x a (some dx))) dx (exd dx [("at", v)])))
@[simp] def mRaiseAt (C : Str) (g : Sl → R D) : Sl → O := fun r => onR (g r) r fun d => .exc ⟨C, some d⟩ r
theorem ss_raiseAt {C : Str} {k : Nat} {p1 p3 : Pos} (hc : X.calm = true) (T : XAt X.prog X.w X.K X.mg X.base E.cl C k) (hr : Room (k + 1) X.A) (he : SE X E ks .val e g) (hq : NmOk C) (hg : Gl X C := by rfl) (hf : fin ks := by trivial)
    (hst : starEach (e :: []) X.env = (false, eval e X.env) :: starEach [] X.env := by rfl) (hpl : (backTo p3 (starEach [] X.env)).any (·.1) = false := by rfl) :
    SS X E kr fin ks (.Raise (some (.Call (.Name C p1) [e] [] p3)) none pos) (mRaiseAt C g) ks' := by
  refine ⟨fun Hs H r σ W Dn tk S P => ?_⟩
  obtain ⟨a, fI, fd, ps, h1, h2, h3, h4, h5, h6, h7⟩ := T.ex
  refine ws_of (ps_raiseM hc tk (pmk_oex h3 h4 h5 h7 hr h6 .nil pass0 hg h2 pa_wa hq.1 hst hpl) (pmk_oexN h3 h4 h5 h7 hr h6 pass0 hg h2 pa_wa hq.1 hst hpl)) ?_
  refine wa_one (he.run _ _ _ _ _ _ tk S (Post.ofS hf S P fun d v Hs' H' e1 g1 k1 P1 => ?_)) hst
  refine ⟨by show 1 ≤ 1000; decide, fun x hx => ⟨x, v, rfl, upd_same, fun dx hd ne => ⟨rfl, dx, [("at", v)], ?_, upd_same, ?_, ?_⟩⟩⟩
  · rw [upd_ne ne.symm, upd_same]
  · rw [upd_ne ne] at hd
    exact hd
  · have hd' : H' dx = none := by
      rw [upd_ne ne] at hd
      exact hd
    have eq : upd (del (upd (upd (upd H' x (exo x a none)) x (exo x a (some dx))) dx (exd dx [("at", v)])) x) dx (.xd [("at", v)]) = upd H' dx (.xd [("at", v)]) := by
      funext b
      by_cases hb : b = dx
      · rw [hb, upd_same, upd_same]
      · rw [upd_ne hb, upd_ne hb]
        by_cases hx2 : b = x
        · rw [hx2, del_same, hx]
        · rw [del_ne hx2, upd_ne hb, upd_ne hx2, upd_ne hx2]
    rw [eq]
    have g2 := Grow.new g1.sub (o := .xd [("at", v)]) hd'
    exact P1 _ _ σ _ _ ks hf ((S.grow g1).grow g2) ⟨a, h1, rfl, dx, v, rfl, upd_same, Rep.same g2.s _ _ k1.rep⟩
end

/-- a def's promise by its plain function -/
def spV (cl : Cl) (bs : List Bool) (kr : Kd) (f : List D → R D) : Sp := fun vs H Q E => ∃ ds Hs, Same Hs H ∧ RAs cl Hs H bs ds vs ∧ Post cl kr Hs H Q E (f ds)
@[simp] def outF : O → R D
  | .nx _ => .ok .non
  | .rt d _ => .ok d
  | .exc x _ => .exc x
  | .stuck => .stuck
/-- the plain function of a body with n further names -/
@[simp] def runF (m : Sl → O) (n : Nat) : List D → R D := fun ds => outF (m (ds.map some ++ List.replicate n none))
structure Fi [md : Md] (P : Program) (w : World) (K : PySem.W.Frag) (mg : Str → Option Value) (base : Heap) (cl : Cl) (x : Str) (k : Nat) (bs : List Bool) (kr : Kd) (f : List D → R D) : Prop where
  ex : ∃ fa fd ps, FnOk P w K mg base (CXM P w) k fa fd ps (spV cl bs kr f) ∧ mg x = some (.ref fa) ∧ PySem.W.keepIn K (.ref fa) = true ∧ Binds K fd ps []
theorem Fi.mono {P : Program} {w : World} {K : PySem.W.Frag} {mg : Str → Option Value} {base : Heap} {cl : Cl} {x : Str} {k k' : Nat} {bs : List Bool} {kr : Kd} {f : List D → R D} (F : Fi P w K mg base cl x k bs kr f) (h : k ≤ k') : Fi P w K mg base cl x k' bs kr f := by
  obtain ⟨fa, fd, ps, h1, h2⟩ := F.ex
  exact ⟨fa, fd, ps, h1.mono h, h2⟩
def kdOf : Bool → Kd
  | true => .val
  | false => .bor
theorem slots_start {E : En} {Hs H : Hp} (eb : E.b = H) : ∀ {bs : List Bool} {ds : List D} {vs : List V}, RAs E.cl Hs H bs ds vs → ∀ (ls : List Kd), Slots E Hs H (bs.map kdOf ++ ls) (ds.map some ++ List.replicate ls.length none) (vs.map some ++ List.replicate ls.length none) []
  | _, _, _, .nil, ls => by
    induction ls with
    | nil => exact .nil
    | cons l ls ih => exact .skip ih
  | _, _, _, .val r t, ls => .cons (A := []) (.val r) (slots_start eb t ls)
  | _, _, _, .bor r t, ls => by
    refine .cons (A := []) ?_ (slots_start eb t ls)
    show ORep E.cl E.N E.b Hs H .bor _ _ []
    cases r with
    | val r => exact .borV r
    | lst h1 h2 => exact .borL (by rw [eb]; exact h1) h2
    | dct h1 h2 => exact .borK (by rw [eb]; exact h1) h2
    | obj h0 h1 h2 => exact .borO h0 (by rw [eb]; exact h1) (by rw [eb]; exact h2)
theorem def_okF {P : Program} {w : World} {K : PySem.W.Frag} {mg : Str → Option Value} {base : Heap} {cl : Cl} {x qual : Str} {st : Stmt} {fa : Addr} {fd : FuncData} {N ps : List Str} {k : Nat} {bs : List Bool} {kr : Kd} {ls ks' : List Kd} {m : Sl → O}
    (F : Fun K x qual st fa fd) (S : FnScope N ps (defScope st)) (hb : bs.length = ps.length) (hN : N.length = ps.length + ls.length) (fk : kr.fine = true) (ko : kr = .val ∨ kr = .own none)
    (body : ∀ (cdv : Value) (A : Around) (outer : List Env) (s : Shared) (H : Hp) (E : XK) (h0 s0 b0 : Hp), Room k (A.deeper (envOfC qual (defScope st) s.heap.objs.size fa cdv)) →
      SB (cxOf (CXM P w) P w K mg base N qual (defScope st) fa cdv A outer s H E) ⟨cl, h0, s0, b0⟩ kr (fun _ => True) (bs.map kdOf ++ ls) (defBody st) m ks') : FnOk P w K mg base (CXM P w) (k + 1) fa fd ps (spV cl bs kr (runF m ls.length)) := by
  refine fun_okM F S (fun vs H Q E h => ?_) (fun cdv A outer s H vs Q E hr h => ?_)
  · obtain ⟨ds, Hs, _, a, _⟩ := h
    rw [a.len.1, hb]
  · obtain ⟨ds, Hs, e, a, p⟩ := h
    refine ⟨_, pss_ws, ?_⟩
    have tk : Takes (cxOf (CXM P w) P w K mg base N qual (defScope st) fa cdv A outer s H E) (fun c dd _ H' => E c dd H') := takes_of rfl rfl rfl rfl
    have hst : L2.start N vs = vs.map some ++ List.replicate ls.length none := by
      unfold L2.start
      rw [a.len.1, hb, hN, Nat.add_sub_cancel_left]
    have S0 : StRel ⟨cl, H, Hs, H⟩ Hs H (bs.map kdOf ++ ls) (ds.map some ++ List.replicate ls.length none) (L2.start N vs) := by
      rw [hst]
      exact ⟨[], slots_start rfl a ls, List.nodup_nil, (fun a ha => nomatch ha), Same.refl _, e, Same.refl _, fun a z => .inl z, fun a z => z, fun _ z => z⟩
    refine (body cdv A outer s H E H Hs H hr).run _ _ _ _ _ _ tk S0 ?_
    unfold runF at p
    cases q : m (ds.map some ++ List.replicate ls.length none) with
    | stuck => rw [q] at p; exact p
    | nx r =>
      rw [q] at p
      intro Hs' H' σ' S'
      have f := S'.facts
      refine p .non Hs' H' ⟨f.1, f.2.1, f.2.2.1, S'.sub, f.2.2.2⟩ ?_
      rcases ko with rfl | rfl
      · exact RK.val .non
      · exact RK.ownPlain rfl .non
    | rt d r =>
      rw [q] at p
      intro Hs' H' σ' v ks2 _ S'
      have f := S'.facts
      refine p v Hs' H' ⟨f.1, f.2.1, f.2.2.1, S'.sub, f.2.2.2⟩ ?_
      obtain ⟨As, s'⟩ := S'
      have sl := s'.sl
      cases sl with
      | cons o t =>
        rename_i A As'
        refine ⟨A, ORep.anyB kr _ _ _ fk o, (List.nodup_append.mp s'.nd).1, fun a ha => ?_⟩
        have z := s'.dis a (List.mem_append_left _ ha)
        exact ⟨z.1, z.2⟩
    | exc z r =>
      rw [q] at p
      intro Hs' H' σ' c dd ks2 _ S' xr
      have f := S'.facts
      exact p c dd Hs' H' ⟨f.1, f.2.1, f.2.2.1, S'.sub, f.2.2.2⟩ xr
theorem def_ok {P : Program} {w : World} {K : PySem.W.Frag} {mg : Str → Option Value} {base : Heap} {cl : Cl} {x qual : Str} {st : Stmt} {fa : Addr} {fd : FuncData} {N ps : List Str} {k : Nat} {bs : List Bool} {kr : Kd} {ls ks' : List Kd} {m : Sl → O}
    (F : Fun K x qual st fa fd) (S : FnScope N ps (defScope st)) (gm : mg x = some (.ref fa)) (bn : Binds K fd ps []) (hb : bs.length = ps.length) (hN : N.length = ps.length + ls.length) (fk : kr.fine = true) (ko : kr = .val ∨ kr = .own none)
    (body : ∀ (cdv : Value) (A : Around) (outer : List Env) (s : Shared) (H : Hp) (E : XK) (h0 s0 b0 : Hp), Room k (A.deeper (envOfC qual (defScope st) s.heap.objs.size fa cdv)) →
      SB (cxOf (CXM P w) P w K mg base N qual (defScope st) fa cdv A outer s H E) ⟨cl, h0, s0, b0⟩ kr (fun _ => True) (bs.map kdOf ++ ls) (defBody st) m ks') : Fi P w K mg base cl x (k + 1) bs kr (runF m ls.length) :=
  ⟨fa, fd, ps, def_okF F S hb hN fk ko body, gm, F.kp, bn⟩
/-- f(e, ..) -/
theorem se_call {X : Cx} {E : En} {ks : List Kd} {x : Str} {k : Nat} {bs : List Bool} {kr : Kd} {f : List D → R D} {e : Expr} {es : List Expr} {t : Sl → R (List D)} {p pos : Pos} (F : Fi X.prog X.w X.K X.mg X.base E.cl x k bs kr f) (hr : Room k X.A) (ha : SA X E ks bs (e :: es) t)
    (hq : NmOk x) (hg : Gl X x := by rfl) (he : starEach (e :: es) X.env = (false, eval e X.env) :: starEach es X.env := by rfl) (hpl : (backTo pos (starEach es X.env)).any (·.1) = false := by rfl) :
    SE X E ks kr (.Call (.Name x p) (e :: es) [] pos) (gCall f t) := by
  refine ⟨fun Hs H r σ W Q tk S P => ?_⟩
  obtain ⟨fa, fd, ps, h1, h2, h3, h4⟩ := F.ex
  refine we_of (pe_callS h1 hr hg h2 h3 h4 (fun σ => passAt tk σ) pa_wa hq.1 he hpl) ?_
  refine ha.run _ _ _ _ _ _ tk S (PostA.of P fun ds vs Hs' H' e1 g1 a P1 => ?_)
  exact ⟨ds, Hs', g1.sub, a, P1⟩
end VL
end

noncomputable section
namespace VL
open PySem PySem.Spec PyProof.Rows L2
variable {md : Md}

theorem bb_len : bootBuiltins "len" = some (.builtin "len") := by decide +kernel
theorem bn_len : ("len" : Str) ≠ "__name__" := by decide
theorem bd_len : (("len" : Str) == ("__debug__" : Str)) = false := by decide
theorem bb_min : bootBuiltins "min" = some (.builtin "min") := by decide +kernel
theorem bn_min : ("min" : Str) ≠ "__name__" := by decide
theorem bd_min : (("min" : Str) == ("__debug__" : Str)) = false := by decide
theorem bb_max : bootBuiltins "max" = some (.builtin "max") := by decide +kernel
theorem bn_max : ("max" : Str) ≠ "__name__" := by decide
theorem bd_max : (("max" : Str) == ("__debug__" : Str)) = false := by decide
theorem bb_sum : bootBuiltins "sum" = some (.builtin "sum") := by decide +kernel
theorem bn_sum : ("sum" : Str) ≠ "__name__" := by decide
theorem bd_sum : (("sum" : Str) == ("__debug__" : Str)) = false := by decide
theorem bb_all : bootBuiltins "all" = some (.builtin "all") := by decide +kernel
theorem bn_all : ("all" : Str) ≠ "__name__" := by decide
theorem bd_all : (("all" : Str) == ("__debug__" : Str)) = false := by decide
theorem bb_sorted : bootBuiltins "sorted" = some (.builtin "sorted") := by decide +kernel
theorem bn_sorted : ("sorted" : Str) ≠ "__name__" := by decide
theorem bd_sorted : (("sorted" : Str) == ("__debug__" : Str)) = false := by decide
theorem bb_isinstance : bootBuiltins "isinstance" = some (.builtin "isinstance") := by decide +kernel
theorem bb_list : bootBuiltins "list" = some (.type "list") := by decide +kernel
theorem bn_list : ("list" : Str) ≠ "__name__" := by decide
theorem bd_list : (("list" : Str) == ("__debug__" : Str)) = false := by decide
theorem bb_tuple : bootBuiltins "tuple" = some (.type "tuple") := by decide +kernel
theorem bn_tuple : ("tuple" : Str) ≠ "__name__" := by decide
theorem bd_tuple : (("tuple" : Str) == ("__debug__" : Str)) = false := by decide
theorem bb_int : bootBuiltins "int" = some (.type "int") := by decide +kernel
theorem bn_int : ("int" : Str) ≠ "__name__" := by decide
theorem bd_int : (("int" : Str) == ("__debug__" : Str)) = false := by decide
theorem bb_bool : bootBuiltins "bool" = some (.type "bool") := by decide +kernel
theorem bn_bool : ("bool" : Str) ≠ "__name__" := by decide
theorem bd_bool : (("bool" : Str) == ("__debug__" : Str)) = false := by decide
theorem bb_str : bootBuiltins "str" = some (.type "str") := by decide +kernel
theorem bn_str : ("str" : Str) ≠ "__name__" := by decide
theorem bd_str : (("str" : Str) == ("__debug__" : Str)) = false := by decide
theorem bb_set : bootBuiltins "set" = some (.type "set") := by decide +kernel
inductive Ty5 where
  | list | tuple | bool | str | int
def Ty5.nm : Ty5 → String
  | .list => "list"
  | .tuple => "tuple"
  | .bool => "bool"
  | .str => "str"
  | .int => "int"
@[simp] def isTy : Ty5 → D → Bool
  | .list, .lst _ => true
  | .tuple, .tup _ => true
  | .bool, .bl _ => true
  | .str, .str _ => true
  | .int, .int _ => true
  | .int, .bl _ => true
  | _, _ => false
@[simp] def tyNm : D → Option String
  | .non => some "NoneType"
  | .bl _ => some "bool"
  | .int _ => some "int"
  | .str _ => some "str"
  | .lst _ => some "list"
  | .tup _ => some "tuple"
  | .dct _ => none
  | .obj _ _ => none
  | .scr _ => none
theorem RB.tyX {K : PySem.W.Frag} {cl : Cl} {Hs H : Hp} {d : D} {v : V} {t : String} (h : RB cl Hs H d v) (e : Same Hs H) (q : tyNm d = some t) : TyX K H v (.type t) := by
  cases d with
  | non => cases q; cases h.nonInv; exact .base .non
  | bl b => cases q; cases h.blInv; exact .base (.bl _)
  | int i => cases q; cases h.intInv; exact .base (.int _)
  | str x => cases q; cases h.strInv; exact .base (.str _)
  | lst ds => cases q; obtain ⟨a, xs, rfl, h1, _⟩ := h.lstInv e; exact .base (.lst h1)
  | tup ds => cases q; obtain ⟨a, xs, rfl, h1, _⟩ := h.tupInv e; exact .base (.tup h1)
  | dct ds => cases q
  | obj _ _ => cases q
  | scr _ => cases q
def allTy : List String := ["NoneType", "bool", "int", "str", "list", "tuple", "dict"]
theorem kit_list : ∀ t ∈ allTy, kitB t "list" = some (t == "list") := by decide +kernel
theorem kit_tuple : ∀ t ∈ allTy, kitB t "tuple" = some (t == "tuple") := by decide +kernel
theorem kit_bool : ∀ t ∈ allTy, kitB t "bool" = some (t == "bool") := by decide +kernel
theorem kit_str : ∀ t ∈ allTy, kitB t "str" = some (t == "str") := by decide +kernel
theorem kit_int : ∀ t ∈ allTy, kitB t "int" = some (t == "int" || t == "bool") := by decide +kernel
theorem kit_is (T : Ty5) (d : D) (t : String) (q : tyNm d = some t) : kitB t T.nm = some (isTy T d) := by
  cases T <;> cases d <;> first | (cases q; done) | (cases q; first | exact kit_list _ (by decide) | exact kit_tuple _ (by decide) | exact kit_bool _ (by decide) | exact kit_str _ (by decide) | exact kit_int _ (by decide))
@[simp] def dIs (T : Ty5) (d : D) : R D := match tyNm d with
  | some _ => .ok (.bl (isTy T d))
  | none => .stuck
@[simp] def dIsLT (d : D) : R D := match tyNm d with
  | some _ => .ok (.bl (isTy .list d || isTy .tuple d))
  | none => .stuck
section
variable {X : Cx} {E : En} {ks : List Kd} {e : Expr} {g : Sl → R D} {p p1 p2 p3 pos : Pos}
/-- isinstance(e, T) -/
theorem se_isi (T : Ty5) {y : Str} (he : SE X E ks .bor e g) (hm : X.mg "isinstance" = none) (hmT : X.mg y = none) (hb : bootBuiltins y = some (.type T.nm)) (hn : y ≠ "__name__") (hdb : (y == ("__debug__" : Str)) = false) (hg : Gl X "isinstance" := by rfl) (hgT : Gl X y := by rfl)
    (hs : starEach [e, .Name y p2] X.env = (false, eval e X.env) :: starEach [.Name y p2] X.env := by rfl) (hs2 : starEach [.Name y p2] X.env = (false, eval (.Name y p2) X.env) :: starEach [] X.env := by rfl) (hpl : (backTo pos (starEach [.Name y p2] X.env)).any (·.1) = false := by rfl) :
    SE X E ks .val (.Call (.Name "isinstance" p1) [e, .Name y p2] [] pos) (gUn (dIs T) g) := by
  refine ⟨fun Hs H r σ W Q tk S P => ?_⟩
  refine we_of (pe_callB call_isi hg hm bb_isinstance (pa_cons pe_we (pa_cons (pe_bltn (v := .ty T.nm) hgT hmT hb rfl hn hdb) pa_nil hs2) hs) (by decide) (by decide) hs hpl) ?_
  refine he.run _ _ _ _ _ _ tk S (P.imp fun d v Hs1 H1 e1 g1 k1 P1 => ?_)
  unfold dIs at P1
  split at P1
  · rename_i t q
    exact ⟨v, .ty T.nm, .type t, .type T.nm, isTy T d, rfl, .ty _, k1.rb.tyX g1.sub q, kit_ty (kit_is T d t q), P1.finV g1.sub (.bl _)⟩
  · exact P1.elim
/-- isinstance(e, (list, tuple)) -/
theorem se_isiLT {kk : Nat} (he : SE X E ks .bor e g) (hm : X.mg "isinstance" = none) (hmL : X.mg "list" = none) (hmT : X.mg "tuple" = none) (hg : Gl X "isinstance" := by rfl) (hgL : Gl X "list" := by rfl) (hgT : Gl X "tuple" := by rfl)
    (hs : starEach [e, .Tuple [.Name "list" p2, .Name "tuple" p3] kk p] X.env = (false, eval e X.env) :: starEach [.Tuple [.Name "list" p2, .Name "tuple" p3] kk p] X.env := by rfl) (hs2 : starEach [.Tuple [.Name "list" p2, .Name "tuple" p3] kk p] X.env = (false, eval (.Tuple [.Name "list" p2, .Name "tuple" p3] kk p) X.env) :: starEach [] X.env := by rfl)
    (hs3 : starEach [.Name "list" p2, .Name "tuple" p3] X.env = (false, eval (.Name "list" p2) X.env) :: starEach [.Name "tuple" p3] X.env := by rfl) (hs4 : starEach [.Name "tuple" p3] X.env = (false, eval (.Name "tuple" p3) X.env) :: starEach [] X.env := by rfl)
    (hpl : (backTo pos (starEach [.Tuple [.Name "list" p2, .Name "tuple" p3] kk p] X.env)).any (·.1) = false := by rfl) :
    SE X E ks .val (.Call (.Name "isinstance" p1) [e, .Tuple [.Name "list" p2, .Name "tuple" p3] kk p] [] pos) (gUn dIsLT g) := by
  refine ⟨fun Hs H r σ W Q tk S P => ?_⟩
  refine we_of (pe_callB call_isiT hg hm bb_isinstance (pa_cons pe_we (pa_cons (pe_tup (pa_cons (pe_bltn (v := .ty "list") hgL hmL bb_list rfl) (pa_cons (pe_bltn (v := .ty "tuple") hgT hmT bb_tuple rfl) pa_nil hs4) hs3)) pa_nil hs2) hs) (by decide) (by decide) hs hpl) ?_
  refine he.run _ _ _ _ _ _ tk S (P.imp fun d v Hs1 H1 e1 g1 k1 P1 => ?_)
  refine ⟨by show 2 ≤ sizeLine; decide, fun q hq => ?_⟩
  unfold dIsLT at P1
  split at P1
  · rename_i t q2
    have g2 := Grow.fresh (o := .tup [V.ty "list", V.ty "tuple"]) g1.sub hq
    refine ⟨v, q, _, .type t, [.type "list", .type "tuple"], isTy .list d || isTy .tuple d, rfl, upd_same, .cons (.ty _) (.cons (.ty _) .nil), (k1.rb.grow g2).tyX g2.sub q2, ?_, (P1.grow g2).finV g2.sub (.bl _)⟩
    refine kitAny_cons (b := isTy .list d) (kit_ty (kit_is .list d t q2)) (fun z => ?_) (fun z => by rw [z]; rfl)
    rw [z, Bool.false_or]
    exact kitAny_cons (b := isTy .tuple d) (kit_ty (kit_is .tuple d t q2)) (fun z => by rw [z]; exact kitAny_nil) (fun z => z)
  · exact P1.elim
end

def blsOf : List D → Option (List Bool)
  | [] => some []
  | .bl i :: r => (blsOf r).map (i :: ·)
  | _ :: _ => none
theorem blsOf_eq : ∀ {ds : List D} {ns : List Bool}, blsOf ds = some ns → ds = ns.map D.bl
  | [], _, h => by cases h; rfl
  | d :: r, _, h => by
    cases d <;> first | cases h | skip
    rename_i i
    dsimp only [blsOf] at h
    cases q : blsOf r with
    | none => rw [q] at h; cases h
    | some ms =>
      rw [q] at h
      cases h
      rw [blsOf_eq q]
      rfl
theorem RepL.bls {cl : Cl} {H : Hp} {ns : List Bool} : ∀ {vs : List V}, RepL cl H (ns.map D.bl) vs → vs = ns.map V.bl := by
  induction ns with
  | nil =>
    intro vs h
    cases h
    rfl
  | cons n ns ih =>
    intro vs h
    cases h with
    | cons h1 h2 =>
      cases h1
      rw [ih h2]
      rfl
def fAll : List D → R D
  | [.lst ds] => match blsOf ds with
    | some bs => .ok (.bl (bs.all id))
    | none => .stuck
  | _ => .stuck
theorem RB.blsInv {cl : Cl} {Hs H : Hp} {ds : List D} {ns : List Bool} {v : V} (h : RB cl Hs H (.lst ds) v) (e : Same Hs H) (q : blsOf ds = some ns) : ∃ a, v = .ref a ∧ H a = some (.lst (ns.map V.bl)) := by
  obtain ⟨p, xs, rfl, h1, r1⟩ := h.lstInv e
  rw [blsOf_eq q] at r1
  rw [r1.bls] at h1
  exact ⟨p, rfl, h1⟩
theorem callv_all {X : Cx} : CallV X.K (rAll X.K) .val [false] fAll := by
  intro cl Hs H ds vs Q W e a P
  obtain ⟨d, v, rfl, rfl, r⟩ := a.one
  cases d <;> first | exact P.elim | skip
  dsimp only [fAll] at P
  split at P
  · rename_i ns q
    obtain ⟨p, rfl, h1⟩ := r.blsInv e q
    exact ⟨p, ns, rfl, SqL.of h1, P.finV e (.bl _)⟩
  · exact P.elim
def dIn (d : D) : D → R D
  | .lst ds => if shp d && shp (.lst ds) then .ok (.bl (ds.any fun z => dEqB z d)) else .stuck
  | .str z => (match d with
    | .str ⟨⟨[c]⟩⟩ => .ok (.bl (decide (c ∈ z.cps.toList)))
    | _ => .stuck)
  | _ => .stuck
theorem any_toPys (d : D) : ∀ ds : List D, (toPys ds).any (fun z => PyData.eqv z (toPy d)) = ds.any fun z => dEqB z d
  | [] => rfl
  | x :: xs => by
    show (PyData.eqv (toPy x) (toPy d) || (toPys xs).any _) = (dEqB x d || xs.any _)
    rw [any_toPys d xs]
    rfl
theorem nox_in : NoX dIn := fun a b x h => by
  cases b <;> dsimp only [dIn] at h <;> first | (split at h <;> cases h) | cases h
theorem opv_in {X : Cx} : OpV X.K (fun x y H Q => rInD X.K x y H Q ∨ ∃ (c : Nat) (z : Str), x = .str ⟨#[c]⟩ ∧ y = .str z ∧ Q (.bl (decide (c ∈ z.cps.toList))) H) .val dIn := by
  intro cl Hs H d1 d2 v1 v2 Q W e b1 b2 P nx
  cases d2 <;> first | exact P.elim | skip
  · cases b2.strInv
    dsimp only [dIn] at P
    split at P
    · rename_i c
      cases b1.strInv
      exact .inr ⟨c, _, rfl, rfl, P.finV e (.bl _)⟩
    · exact P.elim
  rename_i ds
  left
  dsimp only [dIn] at P
  split at P
  · rename_i h
    have h' : shp d1 = true ∧ shp (.lst ds) = true := by simpa using h
    refine ⟨toPy d1, toPys ds, b1.dp e (SeqAt.canLay_of_shaped h'.1), b2.dp e (SeqAt.canLay_of_shaped h'.2), h'.1, h'.2, ?_⟩
    rw [any_toPys]
    exact P.finV e (.bl _)
  · exact P.elim
def insBy {α : Type} (lt : α → α → Bool) (x : α) : List α → List α
  | [] => [x]
  | y :: r => if lt y x then y :: insBy lt x r else x :: y :: r
def sortBy {α : Type} (lt : α → α → Bool) : List α → List α
  | [] => []
  | x :: r => insBy lt x (sortBy lt r)
/-- a strict total order -/
structure Sto {α : Type} (lt : α → α → Bool) : Prop where
  irr : ∀ x, lt x x = false
  tr : ∀ x y z, lt x y = true → lt y z = true → lt x z = true
  tot : ∀ x y, lt x y = true ∨ x = y ∨ lt y x = true
section
variable {α : Type} {lt : α → α → Bool}
theorem insBy_perm (x : α) : ∀ l : List α, (insBy lt x l).Perm (x :: l)
  | [] => List.Perm.refl _
  | y :: r => by
    unfold insBy
    split
    · exact (List.Perm.cons y (insBy_perm x r)).trans (List.Perm.swap x y r)
    · exact List.Perm.refl _
theorem sortBy_perm : ∀ l : List α, (sortBy lt l).Perm l
  | [] => List.Perm.refl _
  | x :: r => (insBy_perm x _).trans (List.Perm.cons x (sortBy_perm r))
theorem insBy_srt (o : Sto lt) (x : α) : ∀ {l : List α}, l.Pairwise (fun a b => lt b a = false) → (insBy lt x l).Pairwise (fun a b => lt b a = false)
  | [], _ => List.pairwise_singleton _ _
  | y :: r, h => by
    obtain ⟨h1, h2⟩ := List.pairwise_cons.mp h
    unfold insBy
    split
    · rename_i q
      refine List.pairwise_cons.mpr ⟨fun z hz => ?_, insBy_srt o x h2⟩
      rcases List.mem_cons.mp ((insBy_perm x r).mem_iff.mp hz) with e | hz
      · rw [e]
        cases w : lt x y with
        | false => rfl
        | true =>
          have := o.tr _ _ _ q w
          rw [o.irr] at this
          cases this
      · exact h1 z hz
    · rename_i q
      have q' : lt y x = false := by simpa using q
      refine List.pairwise_cons.mpr ⟨fun z hz => ?_, h⟩
      rcases List.mem_cons.mp hz with e | hz
      · rw [e]; exact q'
      · cases w : lt z x with
        | false => rfl
        | true =>
          rcases o.tot x y with u | u | u
          · have := o.tr _ _ _ w u
            rw [h1 z hz] at this
            cases this
          · rw [u] at w
            rw [h1 z hz] at w
            cases w
          · rw [q'] at u; cases u
theorem sortBy_srt (o : Sto lt) : ∀ l : List α, (sortBy lt l).Pairwise (fun a b => lt b a = false)
  | [] => List.Pairwise.nil
  | x :: r => insBy_srt o x (sortBy_srt o r)
theorem srt_uniq (o : Sto lt) : ∀ {l m : List α}, l.Perm m → l.Pairwise (fun a b => lt b a = false) → m.Pairwise (fun a b => lt b a = false) → l = m
  | [], m, p, _, _ => (List.nil_perm.mp p).symm
  | x :: l, [], p, _, _ => absurd (List.perm_nil.mp p) (by simp)
  | x :: l, y :: m, p, h1, h2 => by
    obtain ⟨a1, a2⟩ := List.pairwise_cons.mp h1
    obtain ⟨b1, b2⟩ := List.pairwise_cons.mp h2
    have e : x = y := by
      rcases List.mem_cons.mp (p.mem_iff.mp (List.mem_cons_self (a := x) (l := l))) with e | hx
      · exact e
      · rcases List.mem_cons.mp (p.mem_iff.mpr (List.mem_cons_self (a := y) (l := m))) with e | hy
        · exact e.symm
        · rcases o.tot x y with u | u | u
          · rw [b1 x hx] at u; cases u
          · exact u
          · rw [a1 y hy] at u; cases u
    subst e
    rw [srt_uniq o ((List.perm_cons x).mp p) a2 b2]
theorem sortBy_of (o : Sto lt) {l m : List α} (p : m.Perm l) (h : m.Pairwise (fun a b => lt b a = false)) : m = sortBy lt l := srt_uniq o (p.trans (sortBy_perm l).symm) h (sortBy_srt o l)
end
def ltI (a b : Int) : Bool := decide (a < b)
def ltII (a b : Int × Int) : Bool := decide (a.1 < b.1) || (decide (a.1 = b.1) && decide (a.2 < b.2))
theorem sto_I : Sto ltI := ⟨fun x => by simp [ltI], fun x y z h1 h2 => by simp [ltI] at *; omega, fun x y => by simp [ltI]; omega⟩
theorem sto_II : Sto ltII := by
  refine ⟨fun x => by simp [ltII], fun x y z h1 h2 => ?_, fun x y => ?_⟩
  · simp [ltII] at *
    omega
  · obtain ⟨a, b⟩ := x
    obtain ⟨c, d⟩ := y
    simp [ltII]
    omega
def twoD (p : Int × Int) : D := .tup [.int p.1, .int p.2]
def pairsOf : List D → Option (List (Int × Int))
  | [] => some []
  | .tup [.int i, .int j] :: r => (pairsOf r).map ((i, j) :: ·)
  | _ :: _ => none
theorem pairsOf_map (ps : List (Int × Int)) : pairsOf (ps.map twoD) = some ps := by
  induction ps with
  | nil => rfl
  | cons n ns ih =>
    rw [List.map_cons]
    show (pairsOf (ns.map twoD)).map _ = _
    rw [ih]
    rfl
theorem pairsOf_eq : ∀ {ds : List D} {ps : List (Int × Int)}, pairsOf ds = some ps → ds = ps.map twoD
  | [], _, h => by cases h; rfl
  | d :: r, ps, h => by
    unfold pairsOf at h
    split at h
    · rename_i e
      cases e
    · rename_i i j r' e
      cases e
      cases q : pairsOf r with
      | none => rw [q] at h; cases h
      | some ms =>
        rw [q] at h
        cases h
        rw [pairsOf_eq q]
        rfl
    · cases h
def fSorted : List D → R D
  | [.lst ds] => match intsOf ds with
    | some ns => .ok (.lst ((sortBy ltI ns).map D.int))
    | none => match pairsOf ds with
      | some ps => .ok (.lst ((sortBy ltII ps).map twoD))
      | none => .stuck
  | _ => .stuck
theorem RepL.perm {cl : Cl} {H : Hp} : ∀ {vs us : List V}, us.Perm vs → ∀ {ds : List D}, RepL cl H ds vs → ∃ es, es.Perm ds ∧ RepL cl H es us := by
  intro vs us p
  induction p with
  | nil => intro ds h; exact ⟨ds, List.Perm.refl _, h⟩
  | cons x p ih =>
    intro ds h
    cases h with
    | cons h1 h2 =>
      obtain ⟨es, q, r⟩ := ih h2
      exact ⟨_ :: es, List.Perm.cons _ q, .cons h1 r⟩
  | swap x y l =>
    intro ds h
    cases h with
    | cons h1 h2 =>
      cases h2 with
      | cons h2 h3 => exact ⟨_, List.Perm.swap _ _ _, .cons h2 (.cons h1 h3)⟩
  | trans p q ih1 ih2 =>
    intro ds h
    obtain ⟨es, q1, r1⟩ := ih2 h
    obtain ⟨fs, q2, r2⟩ := ih1 r1
    exact ⟨fs, q2.trans q1, r2⟩
def keyV (H : Hp) : V → Int × Int
  | .ref t => match H t with
    | some (.tup [.int i, .int j]) => (i, j)
    | _ => (0, 0)
  | _ => (0, 0)
theorem pair_key {cl : Cl} {Hs H : Hp} (e : Same Hs H) : ∀ {ps : List (Int × Int)} {vs : List V}, RepL cl Hs (ps.map twoD) vs → ps = vs.map (keyV H) ∧ ∀ x ∈ vs, ∃ t, x = V.ref t ∧ H t = some (.tup [.int (keyV H x).1, .int (keyV H x).2])
  | [], _, h => by cases h; exact ⟨rfl, fun x hx => nomatch hx⟩
  | p :: ps, _, h => by
    cases h with
    | cons h1 h2 =>
      obtain ⟨q1, q2⟩ := pair_key e h2
      cases h1 with
      | tup h3 h4 =>
        cases h4 with
        | cons h5 h6 =>
          cases h6 with
          | cons h7 h8 =>
            cases h8
            cases h5
            cases h7
            have h3' := e.at _ _ h3
            rename_i a
            have hk : keyV H (.ref a) = p := by
              unfold keyV
              show (match H a with
                | some (.tup [.int i, .int j]) => (i, j)
                | _ => (0, 0)) = p
              rw [h3']
            refine ⟨by rw [List.map_cons, hk, ← q1], fun x hx => ?_⟩
            rcases List.mem_cons.mp hx with z | z
            · subst z
              exact ⟨a, rfl, by rw [hk]; exact h3'⟩
            · exact q2 x z
theorem callv_sorted {X : Cx} : CallV X.K (fun vs H Q => rSortedI X.K vs H Q ∨ rSortedPO X.K vs H Q) (.own none) [false] fSorted := by
  intro cl Hs H ds vs Q W e a P
  obtain ⟨d, v, rfl, rfl, r⟩ := a.one
  cases d <;> first | exact P.elim | skip
  dsimp only [fSorted] at P
  split at P
  · rename_i ns q
    obtain ⟨p, rfl, h1⟩ := r.intsInv e q
    refine .inl ⟨p, ns, rfl, SqL.of h1, fun ns' p' pm pw hp => ?_⟩
    have z : ns' = sortBy ltI ns := sortBy_of sto_I pm (pw.imp fun {a b} h => by simp [ltI]; omega)
    rw [z]
    exact P.finL e hp (RepL.ofInts _)
  · split at P
    · rename_i ps q
      obtain ⟨p, xs, rfl, h1, r1⟩ := r.lstInv e
      rw [pairsOf_eq q] at r1
      obtain ⟨k1, k2⟩ := pair_key e r1
      refine .inr ⟨p, xs, keyV H, rfl, SqL.of h1, k2, fun ys p' st sb hp => ?_⟩
      obtain ⟨es, pe, re⟩ := RepL.perm sb.perm r1
      have hes : ∃ qs : List (Int × Int), es = qs.map twoD := by
        have : ∀ z ∈ es, ∃ q : Int × Int, z = twoD q := fun z hz => by
          obtain ⟨q, _, hq⟩ := List.mem_map.mp (pe.mem_iff.mp hz)
          exact ⟨q, hq.symm⟩
        clear pe re
        induction es with
        | nil => exact ⟨[], rfl⟩
        | cons z zs ih =>
          obtain ⟨q, hq⟩ := this z List.mem_cons_self
          obtain ⟨qs, hqs⟩ := ih fun z hz => this z (List.mem_cons_of_mem _ hz)
          exact ⟨q :: qs, by rw [hq, hqs]; rfl⟩
      obtain ⟨qs, rfl⟩ := hes
      obtain ⟨k3, k4⟩ := pair_key e re
      have z : qs = sortBy ltII ps := by
        refine sortBy_of sto_II ?_ ?_
        · rw [k1, k3]
          exact sb.perm.map _
        · rw [k3, List.pairwise_map]
          refine List.Pairwise.imp (fun {a b} h => ?_) st
          have h' := SrtO.lexB_no.mp h
          simp [ltII]
          omega
      rw [← z] at P
      exact P.finL e hp re
    · exact P.elim
end VL
end

noncomputable section
namespace VL
open PySem PySem.Spec PyProof.Rows L2
variable {md : Md}

/-- the built-in names that no text here stores -/
structure Bl (mg : Str → Option Value) : Prop where
  len : mg "len" = none
  range : mg "range" = none
  min : mg "min" = none
  max : mg "max" = none
  abs : mg "abs" = none
  sum : mg "sum" = none
  all : mg "all" = none
  any : mg "any" = none
  sorted : mg "sorted" = none
  list : mg "list" = none
  tuple : mg "tuple" = none
  int : mg "int" = none
  bool : mg "bool" = none
  str : mg "str" = none
  isinstance : mg "isinstance" = none
  zip : mg "zip" = none
  enumerate : mg "enumerate" = none
  reversed : mg "reversed" = none
  set : mg "set" = none
  dict : mg "dict" = none
theorem _root_.L2.Room.units65 {k : Nat} {A : Around} (r : Room k A) : A.units + 65 < cLine := by have := r.un; omega
section
variable {X : Cx} {E : En} {kr : Kd} {fin : List Kd → Prop} {ks ks' ks1 : List Kd} {st : Stmt} {m : Sl → O} {a b c e e2 tg : Expr} {g g2 ga gb gc : Sl → R D} {pos p p2 : Pos} {md : Bool}
theorem ss_frzB {i : Nat} (h : SS X E kr fin ks st m ks1) (hk : ks1[i]? = some (.own none) := by rfl) : SS X E kr fin ks st m (ks1.set i .val) := by
  refine ⟨fun Hs H r σ W Dn tk S P => ?_⟩
  refine h.run _ _ _ _ _ _ tk S ?_
  cases q : m r with
  | nx r' =>
    rw [q] at P
    intro Hs' H' σ' S'
    obtain ⟨Hs2, S2⟩ := S'.freeze hk rfl
    exact P _ _ _ S2
  | stuck => rw [q] at P; exact P
  | rt d r' => rw [q] at P; exact P
  | exc x r' => rw [q] at P; exact P
@[simp] def mUnpack (t : Tg) (g : Sl → R D) : Sl → O := fun r => onR (g r) r fun d => (match t.un d with
  | .ok xs => .nx (setD r t.is xs)
  | _ => .stuck)
/-- a, b = e -/
theorem ss_unpack {t : Tg} (he : SE X E ks .val e g) (hg : SG X tg t) (hl : ∀ i ∈ t.is, i < ks.length) (hf : fin ks := by trivial) (hs : swapsWithSole [tg] e pos.line X.env = pure false := by rfl) (hw : swappedStores [tg] e X.env = pure none := by rfl)
    (h1 : (assignEach [tg] X.env).map (·.2) = [assign tg X.env] := by rfl) : SS X E kr fin ks (.Assign [tg] e pos) (mUnpack t g) (setK ks t.is) := by
  refine ⟨fun Hs H r σ W Dn tk S P => ?_⟩
  refine ws_of (ps_asg pe_we pg_wg hs hw h1) ?_
  refine he.run _ _ _ _ _ _ tk S (Post.ofS hf S P fun d v Hs' H' e1 g1 k1 P1 => ?_)
  cases q : t.un d with
  | stuck => rw [q] at P1; exact P1.elim
  | exc x => rw [q] at P1; exact P1.elim
  | ok xs =>
    rw [q] at P1
    exact hg.run E.cl Hs' H' σ d v xs _ g1.sub k1.rep q fun ys ry => P1 _ _ _ (StRel.puts (S.grow g1) hl (Tg.un_len q) ry)
/-- a slice of the script -/
@[simp] def dSlS (d : D) (lo hi : Option Int) : R D := match d with
  | .scr ns => .ok (.lst ((cutL ns lo hi).map D.int))
  | _ => .stuck
@[simp] def gSlS (ga : Sl → R D) (gl gh : Sl → R (Option Int)) : Sl → R D := fun r => do
  let d ← ga r
  let l ← gl r
  let h ← gh r
  dSlS d l h
theorem cutV_ints (ns : List Int) (lo hi : Option Int) : cutV (ns.map V.int) lo hi = (cutL ns lo hi).map V.int := by
  unfold cutV cutL
  rw [List.map_take, List.map_drop, List.length_map]
theorem se_slS {lo hi : Option Expr} {gl gh : Sl → R (Option Int)} (hK : E.cl.K = X.K) (ha : SE X E ks .bor a ga) (hl : SO X E ks lo gl) (hh : SO X E ks hi gh) : SE X E ks (.own none) (.Subscript a (.Slice lo hi none p2) pos) (gSlS ga gl gh) := by
  refine ⟨fun Hs H r σ W Q tk S P => ?_⟩
  refine we_of (pe_slice sl_list pe_we po_wo po_wo) ?_
  refine ha.run _ _ _ _ _ _ tk S (Post.imp (F := fun d => gl r >>= fun l => gh r >>= fun h => dSlS d l h) P fun d v Hs1 H1 e1 g1 k1 P1 => ?_)
  refine hl.run _ _ _ _ _ _ tk (S.grow g1) ?_
  cases q : gl r with
  | stuck => rw [q] at P1; exact P1
  | exc x => rw [q] at P1; exact P1
  | ok l =>
    rw [q] at P1
    intro Hs2 H2 g2
    refine hh.run _ _ _ _ _ _ tk ((S.grow g1).grow g2) ?_
    have P2 : Post E.cl (.own none) Hs2 H2 Q (fun c dd H' => W c dd σ H') (gh r >>= fun h => dSlS d l h) := Post.grow (r := gh r >>= fun h => dSlS d l h) P1 g2
    cases q2 : gh r with
    | stuck => rw [q2] at P2; exact P2
    | exc x => rw [q2] at P2; exact P2
    | ok h =>
      rw [q2] at P2
      intro Hs3 H3 g3
      have P3 : Post E.cl (.own none) Hs3 H3 Q (fun c dd H' => W c dd σ H') (dSlS d l h) := Post.grow (r := dSlS d l h) P2 g3
      cases d <;> first | exact P3.elim | skip
      have k3 := (k1.rb.grow g2).grow g3
      cases k3 with
      | val k =>
        cases k with
        | scr h1 =>
          rw [hK] at h1
          refine ⟨_, _, rfl, g3.sub.seq h1, fun q hq => ?_⟩
          rw [cutV_ints]
          exact P3.finL g3.sub hq (RepL.ofInts _)
@[simp] def dRev : D → R D
  | .lst ds => .ok (.lst ds.reverse)
  | _ => .stuck
theorem se_revL {k : Nat} {p1 p3 : Pos} (ha : SE X E ks .bor a ga) : SE X E ks (.own none) (.Subscript a (.Slice none none (some (.UnaryOp .USub (.Constant (.int 1) k p1) p2)) p3) pos) (gUn dRev ga) := by
  refine ⟨fun Hs H r σ W Q tk S P => ?_⟩
  refine we_of (pe_revL pe_we) ?_
  refine ha.run _ _ _ _ _ _ tk S (P.imp fun d v Hs1 H1 e1 g1 k1 P1 => ?_)
  cases d <;> first | exact P1.elim | skip
  obtain ⟨q, xs, rfl, h1, r1⟩ := k1.rb.lstInv g1.sub
  exact ⟨q, xs, rfl, SqL.of h1, fun l hl => P1.finL g1.sub hl r1.rev⟩
@[simp] def gChain (f f' : D → D → R D) (ga gb gc : Sl → R D) : Sl → R D := fun r => do
  let a ← ga r
  let b ← gb r
  let z ← f a b
  let k ← asB z
  if k then (do
    let c ← gc r
    f' b c) else .ok (.bl false)
theorem chain_read {rr rr' : R2} {f f' : D → D → R D} (hv : OpV X.K rr .val f) (nx : NoX f) (hv' : OpV X.K rr' .val f') (nx' : NoX f') (ha : SE X E ks .bor a ga) (hb : SE X E ks .bor b gb) (hc : SE X E ks .bor c gc)
    {Hs H : Hp} {r : Sl} {σ : L2.St} {W : WX} {Q : VK} (tk : Takes X W) (S : StRel E Hs H ks r σ) (P : Post E.cl .val Hs H Q (fun c dd H' => W c dd σ H') (gChain f f' ga gb gc r)) : tChain rr rr' (WEx X a) (WEx X b) (WEx X c) σ H Q := by
  refine ha.run _ _ _ _ _ _ tk S (Post.imp (F := fun a => gb r >>= fun b => f a b >>= fun z => asB z >>= fun k => if k then (gc r >>= fun c => f' b c) else .ok (.bl false)) P fun d v Hs1 H1 e1 g1 k1 P1 => ?_)
  refine hb.run _ _ _ _ _ _ tk (S.grow g1) (Post.imp (F := fun b => f d b >>= fun z => asB z >>= fun k => if k then (gc r >>= fun c => f' b c) else .ok (.bl false)) P1 fun d2 v2 Hs2 H2 e2 g2 k2 P2 => ?_)
  refine hv _ _ _ _ _ _ _ _ _ g2.sub (k1.rb.grow g2) k2.rb (Post.imp (F := fun z => asB z >>= fun k => if k then (gc r >>= fun c => f' d2 c) else .ok (.bl false)) P2 fun d3 v3 Hs3 H3 e3 g3 k3 P3 => ?_) (nx _ _)
  cases d3 <;> first | exact P3.elim | skip
  rename_i k
  have rp := k3.rep
  cases rp
  refine ⟨k, rfl, ?_⟩
  cases k with
  | true =>
    refine iteT ?_
    refine hc.run _ _ _ _ _ _ tk (((S.grow g1).grow g2).grow g3) (Post.imp (F := fun c => f' d2 c) P3 fun d4 v4 Hs4 H4 e4 g4 k4 P4 => ?_)
    exact hv' _ _ _ _ _ _ _ _ _ g4.sub ((k2.rb.grow g3).grow g4) k4.rb P4 (nx' _ _)
  | false => exact iteF (Post.finV P3 g3.sub (.bl false))
theorem se_chain {op op' : CmpOp} {rr rr' : R2} {f f' : D → D → R D} (ho : OpR X (compareOp op) rr) (hv : OpV X.K rr .val f) (nx : NoX f) (ho' : OpR X (compareOp op') rr') (hv' : OpV X.K rr' .val f') (nx' : NoX f') (ha : SE X E ks .bor a ga) (hb : SE X E ks .bor b gb) (hc : SE X E ks .bor c gc) (hm : lastMarks [op, op'] [b, c] = false := by with_unfolding_all rfl) :
    SE X E ks .val (.Compare a [op, op'] [b, c] pos) (gChain f f' ga gb gc) := ⟨fun Hs H r σ W Q tk S P => we_of (pe_chain ho ho' pe_we pe_we pe_we hm) (chain_read hv nx hv' nx' ha hb hc tk S P)⟩
end

section
variable {X : Cx} {E : En} {ks : List Kd} {e : Expr} {es : List Expr} {t : Sl → R (List D)} {p pos : Pos}
theorem sf_Len (B : Bl X.mg) (ha : SA X E ks [false] (e :: es) t) (hc : X.calm = true := by rfl) (hg : Gl X "len" := by rfl) (he : starEach (e :: es) X.env = (false, eval e X.env) :: starEach es X.env := by rfl) (hpl : (backTo pos (starEach es X.env)).any (·.1) = false := by rfl) : SE X E ks (.val) (.Call (.Name "len" p) (e :: es) [] pos) (gCall fLen t) :=
  se_callB (call_len.or call_lenR) callv_len B.len bb_len ha hg bn_len bd_len he hpl
theorem sf_Min2 (B : Bl X.mg) (ha : SA X E ks [false, false] (e :: es) t) (hc : X.calm = true := by rfl) (hg : Gl X "min" := by rfl) (he : starEach (e :: es) X.env = (false, eval e X.env) :: starEach es X.env := by rfl) (hpl : (backTo pos (starEach es X.env)).any (·.1) = false := by rfl) : SE X E ks (.val) (.Call (.Name "min" p) (e :: es) [] pos) (gCall fMin2 t) :=
  se_callB (call_min2 hc) callv_min2 B.min bb_min ha hg bn_min bd_min he hpl
theorem sf_Max2 (B : Bl X.mg) (ha : SA X E ks [false, false] (e :: es) t) (hc : X.calm = true := by rfl) (hg : Gl X "max" := by rfl) (he : starEach (e :: es) X.env = (false, eval e X.env) :: starEach es X.env := by rfl) (hpl : (backTo pos (starEach es X.env)).any (·.1) = false := by rfl) : SE X E ks (.val) (.Call (.Name "max" p) (e :: es) [] pos) (gCall fMax2 t) :=
  se_callB (call_max2 hc) callv_max2 B.max bb_max ha hg bn_max bd_max he hpl
theorem sf_Min1 (B : Bl X.mg) (ha : SA X E ks [false] (e :: es) t) (hc : X.calm = true := by rfl) (hg : Gl X "min" := by rfl) (he : starEach (e :: es) X.env = (false, eval e X.env) :: starEach es X.env := by rfl) (hpl : (backTo pos (starEach es X.env)).any (·.1) = false := by rfl) : SE X E ks (.val) (.Call (.Name "min" p) (e :: es) [] pos) (gCall fMin1 t) :=
  se_callB (cr_min hc) callv_min1 B.min bb_min ha hg bn_min bd_min he hpl
theorem sf_Max1 (B : Bl X.mg) (ha : SA X E ks [false] (e :: es) t) (hc : X.calm = true := by rfl) (hg : Gl X "max" := by rfl) (he : starEach (e :: es) X.env = (false, eval e X.env) :: starEach es X.env := by rfl) (hpl : (backTo pos (starEach es X.env)).any (·.1) = false := by rfl) : SE X E ks (.val) (.Call (.Name "max" p) (e :: es) [] pos) (gCall fMax1 t) :=
  se_callB (cr_max hc) callv_max1 B.max bb_max ha hg bn_max bd_max he hpl
theorem sf_Sum (B : Bl X.mg) (ha : SA X E ks [false] (e :: es) t) (hc : X.calm = true := by rfl) (hg : Gl X "sum" := by rfl) (he : starEach (e :: es) X.env = (false, eval e X.env) :: starEach es X.env := by rfl) (hpl : (backTo pos (starEach es X.env)).any (·.1) = false := by rfl) : SE X E ks (.val) (.Call (.Name "sum" p) (e :: es) [] pos) (gCall fSum t) :=
  se_callB (cr_sum hc) callv_sum B.sum bb_sum ha hg bn_sum bd_sum he hpl
theorem sf_All (B : Bl X.mg) (ha : SA X E ks [false] (e :: es) t) (hc : X.calm = true := by rfl) (hg : Gl X "all" := by rfl) (he : starEach (e :: es) X.env = (false, eval e X.env) :: starEach es X.env := by rfl) (hpl : (backTo pos (starEach es X.env)).any (·.1) = false := by rfl) : SE X E ks (.val) (.Call (.Name "all" p) (e :: es) [] pos) (gCall fAll t) :=
  se_callB (cr_all hc) callv_all B.all bb_all ha hg bn_all bd_all he hpl
theorem sf_Sorted (B : Bl X.mg) (ha : SA X E ks [false] (e :: es) t) (hc : X.calm = true := by rfl) (hg : Gl X "sorted" := by rfl) (he : starEach (e :: es) X.env = (false, eval e X.env) :: starEach es X.env := by rfl) (hpl : (backTo pos (starEach es X.env)).any (·.1) = false := by rfl) : SE X E ks (.own none) (.Call (.Name "sorted" p) (e :: es) [] pos) (gCall fSorted t) :=
  se_callB (cr_sortedI.or cr_sortedPO) callv_sorted B.sorted bb_sorted ha hg bn_sorted bd_sorted he hpl
theorem sf_List (B : Bl X.mg) (ha : SA X E ks [false] (e :: es) t) (hc : X.calm = true := by rfl) (hg : Gl X "list" := by rfl) (he : starEach (e :: es) X.env = (false, eval e X.env) :: starEach es X.env := by rfl) (hpl : (backTo pos (starEach es X.env)).any (·.1) = false := by rfl) : SE X E ks (.own none) (.Call (.Name "list" p) (e :: es) [] pos) (gCall fList t) :=
  se_callTy call_list_of callv_list B.list bb_list ha hg bn_list bd_list he hpl
theorem sf_Int (B : Bl X.mg) (ha : SA X E ks [false] (e :: es) t) (hc : X.calm = true := by rfl) (hg : Gl X "int" := by rfl) (he : starEach (e :: es) X.env = (false, eval e X.env) :: starEach es X.env := by rfl) (hpl : (backTo pos (starEach es X.env)).any (·.1) = false := by rfl) : SE X E ks (.val) (.Call (.Name "int" p) (e :: es) [] pos) (gCall fInt t) :=
  se_callTy (call_int1.or call_int_str) callv_int B.int bb_int ha hg bn_int bd_int he hpl
theorem si_list {p1 p2 : Pos} {g : Sl → R D} (B : Bl X.mg) (he : SE X E ks .bor e g) (hg : Gl X "isinstance" := by rfl) (hgT : Gl X "list" := by rfl) (hs : starEach [e, .Name "list" p2] X.env = (false, eval e X.env) :: starEach [.Name "list" p2] X.env := by rfl) (hs2 : starEach [.Name "list" p2] X.env = (false, eval (.Name "list" p2) X.env) :: starEach [] X.env := by rfl) (hpl : (backTo pos (starEach [.Name "list" p2] X.env)).any (·.1) = false := by rfl) :
    SE X E ks .val (.Call (.Name "isinstance" p1) [e, .Name "list" p2] [] pos) (gUn (dIs .list) g) := se_isi .list he B.isinstance B.list bb_list bn_list bd_list hg hgT hs hs2 hpl
theorem si_tuple {p1 p2 : Pos} {g : Sl → R D} (B : Bl X.mg) (he : SE X E ks .bor e g) (hg : Gl X "isinstance" := by rfl) (hgT : Gl X "tuple" := by rfl) (hs : starEach [e, .Name "tuple" p2] X.env = (false, eval e X.env) :: starEach [.Name "tuple" p2] X.env := by rfl) (hs2 : starEach [.Name "tuple" p2] X.env = (false, eval (.Name "tuple" p2) X.env) :: starEach [] X.env := by rfl) (hpl : (backTo pos (starEach [.Name "tuple" p2] X.env)).any (·.1) = false := by rfl) :
    SE X E ks .val (.Call (.Name "isinstance" p1) [e, .Name "tuple" p2] [] pos) (gUn (dIs .tuple) g) := se_isi .tuple he B.isinstance B.tuple bb_tuple bn_tuple bd_tuple hg hgT hs hs2 hpl
theorem si_bool {p1 p2 : Pos} {g : Sl → R D} (B : Bl X.mg) (he : SE X E ks .bor e g) (hg : Gl X "isinstance" := by rfl) (hgT : Gl X "bool" := by rfl) (hs : starEach [e, .Name "bool" p2] X.env = (false, eval e X.env) :: starEach [.Name "bool" p2] X.env := by rfl) (hs2 : starEach [.Name "bool" p2] X.env = (false, eval (.Name "bool" p2) X.env) :: starEach [] X.env := by rfl) (hpl : (backTo pos (starEach [.Name "bool" p2] X.env)).any (·.1) = false := by rfl) :
    SE X E ks .val (.Call (.Name "isinstance" p1) [e, .Name "bool" p2] [] pos) (gUn (dIs .bool) g) := se_isi .bool he B.isinstance B.bool bb_bool bn_bool bd_bool hg hgT hs hs2 hpl
theorem si_str {p1 p2 : Pos} {g : Sl → R D} (B : Bl X.mg) (he : SE X E ks .bor e g) (hg : Gl X "isinstance" := by rfl) (hgT : Gl X "str" := by rfl) (hs : starEach [e, .Name "str" p2] X.env = (false, eval e X.env) :: starEach [.Name "str" p2] X.env := by rfl) (hs2 : starEach [.Name "str" p2] X.env = (false, eval (.Name "str" p2) X.env) :: starEach [] X.env := by rfl) (hpl : (backTo pos (starEach [.Name "str" p2] X.env)).any (·.1) = false := by rfl) :
    SE X E ks .val (.Call (.Name "isinstance" p1) [e, .Name "str" p2] [] pos) (gUn (dIs .str) g) := se_isi .str he B.isinstance B.str bb_str bn_str bd_str hg hgT hs hs2 hpl
theorem si_int {p1 p2 : Pos} {g : Sl → R D} (B : Bl X.mg) (he : SE X E ks .bor e g) (hg : Gl X "isinstance" := by rfl) (hgT : Gl X "int" := by rfl) (hs : starEach [e, .Name "int" p2] X.env = (false, eval e X.env) :: starEach [.Name "int" p2] X.env := by rfl) (hs2 : starEach [.Name "int" p2] X.env = (false, eval (.Name "int" p2) X.env) :: starEach [] X.env := by rfl) (hpl : (backTo pos (starEach [.Name "int" p2] X.env)).any (·.1) = false := by rfl) :
    SE X E ks .val (.Call (.Name "isinstance" p1) [e, .Name "int" p2] [] pos) (gUn (dIs .int) g) := se_isi .int he B.isinstance B.int bb_int bn_int bd_int hg hgT hs hs2 hpl
end
/-- how often a while may turn here -/
def WB : Nat := Classical.choose (oN_ex 100000)
theorem WB_eq : WB = 100000 := Classical.choose_spec (oN_ex 100000)
theorem fi_stuck {P : Program} {w : World} {K : PySem.W.Frag} {mg : Str → Option Value} {base : Heap} {cl : Cl} {x : Str} {k : Nat} {bs : List Bool} {kr : Kd} {fa : Addr} {fd : FuncData} {ps : List Str} (gm : mg x = some (.ref fa)) (kp : PySem.W.keepIn K (.ref fa) = true) (bn : Binds K fd ps []) :
    Fi P w K mg base cl x k bs kr (fun _ => .stuck) :=
  ⟨fa, fd, ps, ⟨fun vs H Q E ⟨ds, Hs, _, _, z⟩ => z.elim, fun A outer s H args us vs Q E _ _ _ _ ⟨ds, Hs, _, _, z⟩ => z.elim⟩, gm, kp, bn⟩
end VL
end

noncomputable section
namespace VL
open PySem PySem.Spec PyProof.Rows L2
variable {md : Md}

theorem whileL_inv (I : Sl → Prop) (μ : Sl → Nat) {tc : Sl → R Bool} {mb : Sl → O} (st : ∀ r, I r → ∃ b, tc r = .ok b ∧ (b = true → ∃ r', mb r = .nx r' ∧ I r' ∧ μ r' < μ r)) : ∀ (n : Nat) (r : Sl), I r → μ r < n → ∃ r', whileL tc mb n r = .nx r' ∧ I r' ∧ tc r' = .ok false
  | 0, r, _, h => absurd h (Nat.not_lt_zero _)
  | n + 1, r, hi, h => by
    obtain ⟨b, e, k⟩ := st r hi
    cases b with
    | false =>
      refine ⟨r, ?_, hi, e⟩
      unfold whileL
      rw [e]
      rfl
    | true =>
      obtain ⟨r', e2, hi', hm⟩ := k rfl
      obtain ⟨r'', e3, h3, h4⟩ := whileL_inv I μ st n r' hi' (by omega)
      refine ⟨r'', ?_, h3, h4⟩
      unfold whileL
      rw [e]
      show (match mb r with
        | .nx r' => whileL tc mb n r'
        | o => o) = _
      rw [e2]
      exact e3
/-- a comprehension over what is walked -/
theorem mapR_map {α β γ : Type} {f : α → R β} {l : List γ} {F : γ → α} {G : γ → β} (h : ∀ x ∈ l, f (F x) = .ok (G x)) : mapR f (l.map F) = .ok (l.map G) := by
  induction l with
  | nil => rfl
  | cons x l ih =>
    rw [List.map_cons]
    unfold mapR
    rw [h x List.mem_cons_self, ih fun y hy => h y (List.mem_cons_of_mem _ hy)]
    rfl
theorem gComp_map {γ : Type} {gi : Sl → R (List D)} {t : Tg} {vs : List Nat} {tt : Sl → R Bool} {ge : Sl → R D} {r : Sl} {l : List γ} {F : γ → D} {G : γ → D} (h : gi r = .ok (l.map F)) (hg : ∀ x ∈ l, gTurn t vs tt ge r (F x) = .ok (some (G x))) : gComp gi t vs tt ge r = .ok (.lst (l.map G)) := by
  unfold gComp
  rw [h]
  show (noX (mapR (gTurn t vs tt ge r) (l.map F)) >>= fun os => R.ok (D.lst (os.filterMap id))) = _
  rw [mapR_map (G := fun x => some (G x)) hg]
  show R.ok (D.lst ((l.map fun x => some (G x)).filterMap id)) = _
  rw [List.filterMap_map]
  congr 2
  induction l with
  | nil => rfl
  | cons x l ih =>
    rw [List.map_cons, List.filterMap_cons]
    simp
theorem gComp_filter {γ : Type} {gi : Sl → R (List D)} {t : Tg} {vs : List Nat} {tt : Sl → R Bool} {ge : Sl → R D} {r : Sl} {l : List γ} {F : γ → D} {p : γ → Bool} {G : γ → D} (h : gi r = .ok (l.map F)) (hg : ∀ x ∈ l, gTurn t vs tt ge r (F x) = .ok (if p x then some (G x) else none)) : gComp gi t vs tt ge r = .ok (.lst ((l.filter p).map G)) := by
  unfold gComp
  rw [h]
  show (noX (mapR (gTurn t vs tt ge r) (l.map F)) >>= fun os => R.ok (D.lst (os.filterMap id))) = _
  rw [mapR_map (G := fun x => if p x then some (G x) else none) hg]
  show R.ok (D.lst ((l.map fun x => if p x then some (G x) else none).filterMap id)) = _
  rw [List.filterMap_map]
  congr 2
  clear h hg
  induction l with
  | nil => rfl
  | cons x l ih =>
    rw [List.filterMap_cons, List.filter_cons]
    cases q : p x <;> simpa [q, Function.comp_def] using ih

@[simp] theorem lt_n30 {k : Nat} (h : k < 1073741824) : k < n30 := by rw [n30_val]; exact h
@[simp] theorem lt_n64 {k : Nat} (h : k < 18446744073709551616) : k < n64 := by rw [n64_val]; exact h
@[simp] theorem le_iMil {k : Int} (h : k ≤ 1000000) : k ≤ iMil := by rw [iMil_val]; exact h
@[simp] theorem le_szL' {k : Nat} (h : k ≤ 16777216) : k ≤ szL := le_szL h
@[simp] theorem lt_szL' {k : Nat} (h : k < 16777216) : k < szL := lt_szL h
theorem mulOk_left {a b : Int} (h1 : -(2 ^ 64) < a) (h2 : a < 2 ^ 64) : mulOk a b = true := by
  unfold mulOk
  rw [i64_val, decide_eq_true h1, decide_eq_true h2]
  rfl
theorem mulOk_right {a b : Int} (h1 : -(2 ^ 64) < b) (h2 : b < 2 ^ 64) : mulOk a b = true := by
  unfold mulOk
  rw [i64_val, decide_eq_true h1, decide_eq_true h2]
  cases (decide (-(2 ^ 64) < a) && decide (a < 2 ^ 64)) <;> rfl
theorem mulOk_wide {a b : Int} (h1 : a.natAbs < 2 ^ 2000) (h2 : b.natAbs < 2 ^ 2000) : mulOk a b = true := by
  unfold mulOk wideOk
  rw [w600_val, decide_eq_true h1, decide_eq_true h2]
  simp
theorem fmod_pos {a b : Int} (hb : 0 < b) : 0 ≤ a.fmod b ∧ a.fmod b < b := ⟨Int.fmod_nonneg_of_pos a hb, Int.fmod_lt_of_pos a hb⟩
theorem dMul_ok {a b : Int} (h : mulOk a b = true) : dMul (.int a) (.int b) = .ok (.int (a * b)) := by
  dsimp only [dMul]
  rw [if_pos h]
theorem dFdiv_ok {a b : Int} (h1 : b ≠ 0) (h2 : b.natAbs < 1073741824) : dFdiv (.int a) (.int b) = .ok (.int (a.fdiv b)) := by
  dsimp only [dFdiv]
  rw [if_pos (.inl ⟨h1, by rw [n30_val]; exact h2⟩)]
theorem dPow_ok {a : Int} {k : Nat} (h1 : k ≤ 1000000) (h2 : a.natAbs < 2 ^ 64) : dPow (.int a) (.int k) = .ok (.int (a ^ k)) := by
  dsimp only [dPow]
  rw [if_pos ⟨Int.natCast_nonneg k, by rw [iMil_val]; omega, by rw [n64_val]; exact h2⟩, Int.toNat_natCast]
theorem dRange1_nat {n : Nat} (h : n ≤ 16777216) : dRange1 (.int (n : Int)) = .ok ((List.range n).map fun (i : Nat) => D.int i) := by
  dsimp only [dRange1]
  rw [if_pos (by rw [Int.toNat_natCast, szL_val]; exact h)]
  unfold rangeD
  rw [Int.toNat_natCast]
  simp
theorem range_split (n : Nat) : List.range n = List.range' 0 n := List.range_eq_range'
theorem seq_nx {m1 m2 : Sl → O} {r r' : Sl} (h : m1 r = .nx r') : mSeq m1 m2 r = m2 r' := by
  unfold mSeq
  rw [h]
theorem cutL_from {α : Type} {xs : List α} {k : Nat} (h : k ≤ xs.length) {i : Int} (hi : i = (k : Int) := by rfl) : cutL xs (some i) none = xs.drop k := by
  subst hi
  unfold cutL
  rw [HT.sIx_nat, HT.sIx_none, Nat.min_eq_left h, List.take_of_length_le (by rw [List.length_drop]; omega)]
@[simp] theorem dEq_int (a b : Int) : dEq (.int a) (.int b) = .ok (.bl (a == b)) := rfl
@[simp] theorem dNe_int (a b : Int) : dNe (.int a) (.int b) = .ok (.bl (!(a == b))) := rfl
@[simp] theorem dEq_bl (a b : Bool) : dEq (.bl a) (.bl b) = .ok (.bl (a == b)) := rfl
@[simp] theorem dNe_bl (a b : Bool) : dNe (.bl a) (.bl b) = .ok (.bl (!(a == b))) := rfl
/-- what is plain data of a depth below n -/
def pl : Nat → D → Bool
  | 0, _ => false
  | n + 1, .lst xs => xs.all (pl n) && decide (xs.length ≤ szL)
  | n + 1, .tup xs => xs.all (pl n) && decide (xs.length ≤ szL)
  | _ + 1, .str x => (PyData.str x).canLay0 && decide (x.length ≤ szL)
  | _ + 1, .dct _ => false
  | _ + 1, .obj _ _ => false
  | _ + 1, .scr _ => false
  | _ + 1, _ => true
theorem toPys_lay : ∀ {ds : List D}, (∀ d ∈ ds, (toPy d).canLay0 = true) → PyData.canLayAll0 (toPys ds) = true
  | [], _ => rfl
  | d :: ds, h => by
    show ((toPy d).canLay0 && PyData.canLayAll0 (toPys ds)) = true
    rw [h d List.mem_cons_self, toPys_lay fun x hx => h x (List.mem_cons_of_mem _ hx)]
    rfl
theorem toPys_depth {n : Nat} : ∀ {ds : List D}, (∀ d ∈ ds, (toPy d).depth ≤ n) → PyData.depthAll (toPys ds) ≤ n
  | [], _ => Nat.zero_le _
  | d :: ds, h => by
    show max (toPy d).depth (PyData.depthAll (toPys ds)) ≤ n
    exact Nat.max_le.mpr ⟨h d List.mem_cons_self, toPys_depth fun x hx => h x (List.mem_cons_of_mem _ hx)⟩
theorem pl_lay : ∀ (n : Nat) (d : D), pl n d = true → (toPy d).canLay0 = true ∧ (toPy d).depth ≤ n
  | 0, _, h => by cases h
  | n + 1, .lst xs, h => by
    have h' : xs.all (pl n) = true := by
      have q : (xs.all (pl n) && decide (xs.length ≤ szL)) = true := h
      exact (Bool.and_eq_true_iff.mp q).1
    have k : ∀ d ∈ xs, (toPy d).canLay0 = true ∧ (toPy d).depth ≤ n := fun d hd => pl_lay n d (List.all_eq_true.mp h' d hd)
    exact ⟨toPys_lay fun d hd => (k d hd).1, Nat.succ_le_succ (toPys_depth fun d hd => (k d hd).2)⟩
  | n + 1, .tup xs, h => by
    have h' : xs.all (pl n) = true := by
      have q : (xs.all (pl n) && decide (xs.length ≤ szL)) = true := h
      exact (Bool.and_eq_true_iff.mp q).1
    have k : ∀ d ∈ xs, (toPy d).canLay0 = true ∧ (toPy d).depth ≤ n := fun d hd => pl_lay n d (List.all_eq_true.mp h' d hd)
    exact ⟨toPys_lay fun d hd => (k d hd).1, Nat.succ_le_succ (toPys_depth fun d hd => (k d hd).2)⟩
  | _ + 1, .str x, h => by
    have q : ((PyData.str x).canLay0 && decide (x.length ≤ szL)) = true := h
    exact ⟨(Bool.and_eq_true_iff.mp q).1, Nat.zero_le _⟩
  | _ + 1, .dct _, h => by cases h
  | _ + 1, .obj _ _, h => by cases h
  | _ + 1, .scr _, h => by cases h
  | _ + 1, .non, _ => ⟨rfl, Nat.zero_le _⟩
  | _ + 1, .bl _, _ => ⟨rfl, Nat.zero_le _⟩
  | _ + 1, .int _, _ => ⟨rfl, Nat.zero_le _⟩
theorem pl_shp {n : Nat} {d : D} (hn : n ≤ 64) (h : pl n d = true) : shp d = true := by
  obtain ⟨a, b⟩ := pl_lay n d h
  unfold shp SeqAt.shaped
  rw [a, decide_eq_true (Nat.le_trans b hn)]
  rfl
mutual
theorem eqv_self : ∀ (d : D), (toPy d).canLay0 = true → PyData.eqv (toPy d) (toPy d) = true
  | .non, _ => rfl
  | .bl b, _ => by show (b == b) = true; simp
  | .int i, _ => by show (i == i) = true; simp
  | .str x, _ => by show (x == x) = true; simp
  | .lst xs, h => eqvAll_self xs h
  | .tup xs, h => eqvAll_self xs h
  | .dct _, h => by cases h
  | .obj _ _, h => by cases h
  | .scr _, h => by cases h
theorem eqvAll_self : ∀ (ds : List D), PyData.canLayAll0 (toPys ds) = true → PyData.eqvAll (toPys ds) (toPys ds) = true
  | [], _ => rfl
  | d :: ds, h => by
    have q : ((toPy d).canLay0 && PyData.canLayAll0 (toPys ds)) = true := h
    obtain ⟨a, b⟩ := Bool.and_eq_true_iff.mp q
    show (PyData.eqv (toPy d) (toPy d) && PyData.eqvAll (toPys ds) (toPys ds)) = true
    rw [eqv_self d a, eqvAll_self ds b]
    rfl
end
theorem dEq_self {n : Nat} {d : D} (hn : n ≤ 64) (h : pl n d = true) : dEq d d = .ok (.bl true) := by
  unfold dEq dEqB
  rw [pl_shp hn h, eqv_self d (pl_lay n d h).1]
  rfl
theorem pl_ints {xs : List Int} {n : Nat} (h : xs.length ≤ szL) : pl (n + 2) (.lst (xs.map D.int)) = true := by
  show ((xs.map D.int).all (pl (n + 1)) && decide ((xs.map D.int).length ≤ szL)) = true
  rw [List.length_map, decide_eq_true h, Bool.and_true, List.all_eq_true]
  intro d hd
  obtain ⟨i, _, rfl⟩ := List.mem_map.mp hd
  rfl
theorem pl_pair {p : Int × Int} {n : Nat} : pl (n + 2) (twoD p) = true := by
  show (([D.int p.1, D.int p.2] : List D).all (pl (n + 1)) && decide (2 ≤ szL)) = true
  rw [decide_eq_true (by rw [szL_val]; omega)]
  rfl
theorem pl_pairs {ps : List (Int × Int)} {n : Nat} (h : ps.length ≤ szL) : pl (n + 3) (.lst (ps.map twoD)) = true := by
  show ((ps.map twoD).all (pl (n + 2)) && decide ((ps.map twoD).length ≤ szL)) = true
  rw [List.length_map, decide_eq_true h, Bool.and_true, List.all_eq_true]
  intro d hd
  obtain ⟨p, _, rfl⟩ := List.mem_map.mp hd
  exact pl_pair
end VL
end

noncomputable section
namespace VL
open PySem PySem.Spec PyProof.Rows L2
open ModeZ

/-- where a def stands -/
structure AtF (K : PySem.W.Frag) (mg : Str → Option Value) (x qual : Str) (st : Stmt) : Prop where
  ex : ∃ fa fd, Fun K x qual st fa fd ∧ mg x = some (.ref fa)
theorem at_mk {K : PySem.W.Frag} {h : Heap} {mg : Str → Option Value} (X : K.In h) (G : h.Ns mainGlobals mg) {x qual : Str} {st : Stmt} {f : Addr} {od an : Option Addr} {sl : Array (Option Value)} {oc kV dc pm cd ct : Value}
    (a : PySem.W.nsIn K mainGlobals x = some (some (.ref f))) (l : K.lookup f = some ⟨oc, od, .func (PySem.W.fnOf x qual (defArgs st) (defBody st) (defScope st) .none kV dc pm an cd ct), sl⟩) (c : PySem.W.codeIn K cd qual = true) (k : PySem.W.keepIn K (.ref f) = true) :
    AtF K mg x qual st := ⟨f, _, fun_mk l c k, PySem.W.mg_of X G a⟩
theorem cx_no {P : Program} {w : World} {outer : List Env} {H : Hp} {s s' : Shared} {u : Value} (h : L2.CX P w outer H s (fun _ _ _ => False) u s') : False := by
  obtain ⟨a, B, H', cls, d, h⟩ := h
  exact h.2.2.2.2.2.2.2
end VL
end

noncomputable section
namespace VL
open PySem PySem.Spec PyProof.Rows L2
variable {md : Md}

theorem mxD_args (a d : Value) : argsOk "max" ⟨[a], [(Str.ofString "default", d)]⟩ := by unfold argsOk; kernel_rfl
section
variable {prog : Program} {w : World} {A : Around} {R : Result → Shared → Prop} {I S : Addr} {fp wr : List Addr} {n : Nat} {P : Nat → Value → Prop} {St : Nat → Heap → Prop} {bt : Nat → Nat → Bool} {kw : List (Str × Value)} {E : Value → Shared → Prop}
/-- what the loop leaves -/
abbrev mxEnd (R : Result → Shared → Prop) (s : Shared) (S : Addr) (wr : List Addr) (P : Nat → Value → Prop) (bt : Nat → Nat → Bool) (n : Nat) : Prop :=
  ∀ v h2 t2, P (argBest bt (n - 1)) v → (∀ b o, b ∉ wr → b ≠ S → s.heap.get? b = some o → h2.get? b = some o) → R (.ok (.ret v)) { s with heap := h2, toks := t2 }
theorem mx_turn (W : Walks prog w A.in1 I fp wr n P St) (hc : CmpOf prog w A.in1 .Gt P bt) (hf : S ∉ fp) : ∀ (k j : Nat) (s : Shared) (vb : Value) (c : Nat), n - (j + 1) = k → j + 1 ≤ n → St (j + 1) s.heap → P (argBest bt j) vb →
    s.heap.get? S = some { cls := .type "list", dict := none, data := .seq #[vb, vb] c, slots := #[] } → mxEnd R s S wr P bt n → codeAny (model prog w) A (.builtin "max.loop" ⟨[.ref I, .none, .ref S], kw⟩) R s
  | 0, j, s, vb, c, hk, hj, q, hp, hS, hR => by
    have e : j + 1 = n := by omega
    have nw : S ∉ wr := fun z => hf (W.sub _ z)
    refine codeAny_builtin PySem.F.entry_max_loop ?_; rw [Around.under_plainId PySem.F.plain_max_loop _]
    show wpAny _ A.in1 (seqItems? (.ref S) >>= _) _ _ s; refine wpAny_bind (wpAny_seqItems hS rfl ?_)
    show wpAny _ A.in1 (tryCatch (pyNext (.ref I)) _ >>= _) _ _ s; refine wpAny_bind (wpAny_tryCatch (W.done s _ _ (e ▸ q) fun h2 t2 kp => ?_))
    show wpAny _ A.in1 (updateSeq S (fun _ => #[]) >>= _) _ _ _; refine wpAny_bind ?_
    refine wpAny_updateSeq (kp S _ nw hS) rfl (wpAny_bind (wpAny_letGo (wpAny_pure (hR vb _ t2 (by rw [← e]; exact hp) fun b o hb ne g => ?_))))
    exact (Heap.get?_update_other _ _ (Ne.symm ne)).trans (kp b o hb g)
  | k + 1, j, s, vb, c, hk, hj, q, hp, hS, hR => by
    have lt : j + 1 < n := by omega
    have nw : S ∉ wr := fun z => hf (W.sub _ z)
    have nm : (toString "max" ++ toString ".loop" : String) = "max.loop" := by first | decide | rfl
    refine codeAny_builtin PySem.F.entry_max_loop ?_; rw [Around.under_plainId PySem.F.plain_max_loop _]
    show wpAny _ A.in1 (seqItems? (.ref S) >>= _) _ _ s; refine wpAny_bind (wpAny_seqItems hS rfl ?_)
    show wpAny _ A.in1 (tryCatch (pyNext (.ref I)) _ >>= _) _ _ s; refine wpAny_bind (wpAny_tryCatch (W.item (j + 1) s _ _ lt q fun v h2 t2 hv q2 kp => ?_))
    show wpAny _ A.in1 (tryCatch (holding [v, v] (richCompare .Gt v vb >>= _)) _ >>= _) _ _ _; refine wpAny_bind (wpAny_tryCatch (wpAny_holding (wpAny_bind (hc (j + 1) (argBest bt j) v vb _ _ _ hv hp ?_))))
    refine wpAny_bind (wpAny_holding (wpAny_truthy_bool (wpAny_bind (wpAny_letGo (wpAny_pure ?_)))))
    have hS2 := kp S _ nw hS
    cases hb : bt (j + 1) (argBest bt j) with
    | true =>
      simp only [if_true, Bool.false_eq_true, if_false]; refine wpAny_bind (wpAny_updateSeq hS2 rfl (wpAny_bind (wpAny_letGo ?_))); rw [nm]
      refine wpAny_pure ⟨plainId_quiet PySem.F.plain_max_loop _, mx_turn W hc hf k (j + 1) _ v _ (by omega) lt (W.frame _ _ _ q2 fun b hbf o g => ?_) (by unfold argBest; rw [hb]; exact hv) (Heap.get?_update_self _ hS2 rfl) fun v2 h3 t3 hv2 k3 => ?_⟩
      · exact Eq.trans (Heap.get?_update_other _ _ (fun z : S = b => hf (z ▸ hbf))) g
      · exact hR v2 h3 t3 hv2 fun b o nb ns g => k3 b o nb ns (Eq.trans (Heap.get?_update_other _ _ (Ne.symm ns)) (kp b o nb g))
    | false =>
      simp only [if_true, Bool.false_eq_true, if_false]; refine wpAny_bind (wpAny_letGo ?_); rw [nm]
      refine wpAny_pure ⟨plainId_quiet PySem.F.plain_max_loop _, mx_turn W hc hf k (j + 1) _ vb c (by omega) lt q2 (by unfold argBest; rw [hb]; exact hp) hS2 fun v2 h3 t3 hv2 k3 => ?_⟩
      exact hR v2 h3 t3 hv2 fun b o nb ns g => k3 b o nb ns (kp b o nb g)
theorem mx_first (W : Walks prog w A.in1 I fp wr n P St) (hc : CmpOf prog w A.in1 .Gt P bt) (hf : S ∉ fp) (hn : 0 < n) {s : Shared} {c : Nat} (q : St 0 s.heap) (hS : s.heap.get? S = some { cls := .type "list", dict := none, data := .seq #[] c, slots := #[] }) (hR : mxEnd R s S wr P bt n) :
    codeAny (model prog w) A (.builtin "max.loop" ⟨[.ref I, .none, .ref S], kw⟩) R s := by
  have nw : S ∉ wr := fun z => hf (W.sub _ z)
  have nm : (toString "max" ++ toString ".loop" : String) = "max.loop" := by first | decide | rfl
  refine codeAny_builtin PySem.F.entry_max_loop ?_; rw [Around.under_plainId PySem.F.plain_max_loop _]
  show wpAny _ A.in1 (seqItems? (.ref S) >>= _) _ _ s; refine wpAny_bind (wpAny_seqItems hS rfl ?_)
  show wpAny _ A.in1 (tryCatch (pyNext (.ref I)) _ >>= _) _ _ s; refine wpAny_bind (wpAny_tryCatch (W.item 0 s _ _ hn q fun v h2 t2 hv q2 kp => ?_))
  have hS2 := kp S _ nw hS
  show wpAny _ A.in1 (updateSeq S (fun _ => #[v, v]) >>= _) _ _ _; refine wpAny_bind (wpAny_updateSeq hS2 rfl ?_); rw [nm]
  refine wpAny_pure ⟨plainId_quiet PySem.F.plain_max_loop _, mx_turn W hc hf _ 0 _ v _ rfl hn (W.frame _ _ _ q2 fun b hbf o g => ?_) hv (Heap.get?_update_self _ hS2 rfl) fun v2 h3 t3 hv2 k3 => ?_⟩
  · exact Eq.trans (Heap.get?_update_other _ _ (fun z : S = b => hf (z ▸ hbf))) g
  · exact hR v2 h3 t3 hv2 fun b o nb ns g => k3 b o nb ns (Eq.trans (Heap.get?_update_other _ _ (Ne.symm ns)) (kp b o nb g))
theorem mx_none (W : Walks prog w A.in1 I fp wr 0 P St) {s : Shared} {c : Nat} {d : Value} (hf : S ∉ fp) (q : St 0 s.heap) (hS : s.heap.get? S = some { cls := .type "list", dict := none, data := .seq #[] c, slots := #[] })
    (hR : ∀ h2 t2, (∀ b o, b ∉ wr → b ≠ S → s.heap.get? b = some o → h2.get? b = some o) → R (.ok (.ret d)) { s with heap := h2, toks := t2 }) :
    codeAny (model prog w) A (.builtin "max.loop" ⟨[.ref I, .none, .ref S], [(Str.ofString "default", d)]⟩) R s := by
  refine codeAny_builtin PySem.F.entry_max_loop ?_; rw [Around.under_plainId PySem.F.plain_max_loop _]
  show wpAny _ A.in1 (seqItems? (.ref S) >>= _) _ _ s; refine wpAny_bind (wpAny_seqItems hS rfl ?_)
  show wpAny _ A.in1 (tryCatch (pyNext (.ref I)) _ >>= _) _ _ s; refine wpAny_bind (wpAny_tryCatch (W.done s _ _ q fun h2 t2 kp => ?_))
  show wpAny _ A.in1 (rule _ >>= _) _ _ _; refine wpAny_bind (wpAny_rule ?_)
  exact wpAny_pure (hR h2 t2 fun b o hb _ g => kp b o hb g)
theorem mx_call {s : Shared} {l : Addr} {xs : Array (Int × Tok)} {d : Value} {Q : Value → Shared → Prop} (hh : A.handled = none) (hl : s.heap.IsList l (intItems xs))
    (h : ∀ v h2 t2, (if xs.size = 0 then v = d else (intItems xs)[argBest (fun i j => decide (numAt xs i > numAt xs j)) (xs.size - 1)]? = some v) → (∀ b o, s.heap.get? b = some o → h2.get? b = some o) → Q v { s with heap := h2, toks := t2 }) :
    wpAny (model prog w) A (call (.builtin "max") [.ref l] [(Str.ofString "default", d)]) Q E s := by
  have nm : (toString "max" ++ toString ".loop" : String) = "max.loop" := by first | decide | rfl
  refine PyProof.Rows.kmb_tree PySem.F.kind_max PySem.F.plain_max PySem.F.entry_max (mxD_args _ _) ?_
  show wpAny _ A.in1 (Builtin.Builtins.bindParams "max" ["key", "default"] 0 ⟨[], [(Str.ofString "default", d)]⟩ >>= _) _ _ s; refine wpAny_bind (wpAny_of_eq (show Builtin.Builtins.bindParams "max" ["key", "default"] 0 ⟨[], [(Str.ofString "default", d)]⟩ = pure [none, some d] from rfl) ?_)
  refine wpAny_bind (wpAny_pure (wpAny_bind (iter_intList hl fun s2 e2 st fp ne => ?_)))
  subst e2
  refine wpAny_bind (wpAny_newObj_type ?_); rw [nm]
  have W := Walks.list (prog := prog) (w := w) (A := A.in1) hh s.heap.objs.size l ne (intItems xs)
  have hf : (s.heap.push { cls := .type "list_iterator", data := .fields #[.ref l, .int 0 0] }).objs.size ∉ [s.heap.objs.size, l] := fun z => Nat.lt_irrefl _ (fp _ z)
  have fin : ∀ (h2 : Heap), (∀ b o, b ∉ [s.heap.objs.size] → b ≠ (s.heap.push { cls := .type "list_iterator", data := .fields #[.ref l, .int 0 0] }).objs.size → ((s.heap.push { cls := .type "list_iterator", data := .fields #[.ref l, .int 0 0] }).push { cls := .type "list", dict := none, data := .seq #[] 0, slots := #[] }).get? b = some o → h2.get? b = some o) → ∀ b o, s.heap.get? b = some o → h2.get? b = some o := by
    intro h2 k2
    refine old_kept fun b o nb g => k2 b o nb (Nat.ne_of_lt (Heap.lt_size g)) (Heap.get?_push_of_some _ g)
  by_cases z : xs.size = 0
  · have zi : (intItems xs).size = 0 := by unfold intItems; rw [Array.size_map]; exact z
    rw [zi] at W
    refine wpAny_pure ⟨plainId_quiet PySem.F.plain_max_loop _, mx_none W hf (W.frame _ _ _ st fun b _ o g => Heap.get?_push_of_some _ g) (Heap.get?_push_size _ rfl) fun h2 t2 k2 => ?_⟩
    exact h d h2 t2 (by rw [if_pos z]) (fin h2 k2)
  · have zi : (intItems xs).size = xs.size := by unfold intItems; rw [Array.size_map]
    rw [zi] at W
    refine wpAny_pure ⟨plainId_quiet PySem.F.plain_max_loop _, mx_first W (CmpOf.ints_gt (numAt xs) (fun _ _ => intItems_at)) hf (Nat.pos_of_ne_zero z) (W.frame _ _ _ st fun b _ o g => Heap.get?_push_of_some _ g) (Heap.get?_push_size _ rfl) fun v h2 t2 hv k2 => ?_⟩
    exact h v h2 t2 (by rw [if_neg z]; exact hv) (fin h2 k2)
end

section
variable {prog : Program} {w : World} {A : Around} {R : Result → Shared → Prop} {I S : Addr} {fp wr : List Addr} {n : Nat} {P : Nat → Value → Prop} {St : Nat → Heap → Prop} {bt : Nat → Nat → Bool} {kw : List (Str × Value)} {E : Value → Shared → Prop}
end

end VL
end

noncomputable section
namespace VL
open PySem PySem.Spec PyProof.Rows L2
variable {md : Md}
def rMxD (K : PySem.W.Frag) (le : Int → Int → Prop) : List V → List V → Hp → VK → Prop := fun vs zs H Q => ∃ (a : Addr) (ns : List Int) (z : V), vs = [V.ref a] ∧ zs = [z] ∧ SqL K H a (ns.map V.int) ∧ (ns = [] → Q z H) ∧ ∀ m, m ∈ ns → (∀ y, y ∈ ns → le y m) → Q (.int m) H
theorem cr_mxD {X : Cx} (hc : X.calm = true) : CallRK X (.builtin "max") [Str.ofString "default"] (rMxD X.K fun y m => y ≤ m) := by
  intro pins s σ H vs zs us ws Q I r rz h
  obtain ⟨a, ns, z, rfl, rfl, hs, h0, h1⟩ := h
  obtain ⟨its, rv, hl, _⟩ := I.list hs
  obtain ⟨w1, rfl, e1⟩ := vals1 rz
  rw [Vals.ref1 r]
  have hi := rv.ints
  obtain ⟨xs, e⟩ := hi.allInts.items
  have hn : numsOf (intItems xs).toList = ns := by rw [← e]; exact hi.numsOf
  rw [nums_intItems] at hn
  have hl2 := hl.isList
  rw [e] at hl2
  have len : xs.size = ns.length := by rw [← hn, List.length_map, Array.length_toList]
  refine mx_call (I.ok.hd hc) hl2 fun v h2 t2 hv hk => ?_
  by_cases z0 : xs.size = 0
  · rw [if_pos z0] at hv
    subst hv
    exact ⟨z, H, I.kept hk, e1, h0 (List.length_eq_zero_iff.mp (len ▸ z0))⟩
  · rw [if_neg z0] at hv
    obtain ⟨t, rfl⟩ := intItems_at hv
    obtain ⟨k1, k2⟩ := argBest_gt (numAt xs) (xs.size - 1)
    refine ⟨.int _, H, I.kept hk, ⟨_, rfl⟩, h1 _ ?_ fun y hy => ?_⟩
    · rw [numAt_eq, ← hn]; exact PySem.getD_mem (by rw [List.length_map, Array.length_toList]; omega)
    · rw [← hn] at hy
      obtain ⟨j, hj, rfl⟩ := mem_getD hy
      rw [List.length_map, Array.length_toList] at hj
      rw [← numAt_eq]; exact k2 j (by omega)
def fMaxD : D → D → R D
  | .lst ds, d => match intsOf ds with
    | some ns => .ok (if ns = [] then d else .int (lmax ns))
    | none => .stuck
  | _, _ => .stuck
section
variable {X : Cx} {E : En} {ks : List Kd} {e e0 : Expr} {g g0 : Sl → R D} {p pos kp : Pos}
theorem se_maxD (B : Bl X.mg) (ha : SE X E ks .bor e g) (hd : SE X E ks .val e0 g0) (hc : X.calm = true := by rfl) (hg : Gl X "max" := by rfl) (hs : starEach (e :: []) X.env = (false, eval e X.env) :: starEach [] X.env := by rfl)
    (he : backTo pos (starEach (e :: []) X.env) = (false, eval e X.env) :: backTo pos (starEach [] X.env) := by rfl) (hpl : (backTo pos (starEach (e :: []) X.env)).any (·.1) = false := by rfl)
    (hall : (backToKw pos (keywordEach [⟨some "default", e0, kp⟩] X.env)).all (·.1.isSome) = true := by rfl) (hnone : (backToKw pos (keywordEach [⟨some "default", e0, kp⟩] X.env)).any (·.1.isNone) = false := by rfl)
    (hks : (backToKw pos (keywordEach [⟨some "default", e0, kp⟩] X.env)).filterMap (·.1) = [Str.ofString "default"] := by rfl) :
    SE X E ks .val (.Call (.Name "max" p) [e] [⟨some "default", e0, kp⟩] pos) (gBin fMaxD g g0) := by
  refine ⟨fun Hs H r σ W Q tk S P => ?_⟩
  refine we_of (pe_callBK (cr_mxD hc) hg B.max bb_max (pa_cons pe_we pa_nil hs) (pk_cons pe_we pk_nil) bn_max bd_max he hpl hall hnone hks) ?_
  refine ha.run _ _ _ _ _ _ tk S (P.imp fun d1 v1 Hs1 H1 e1 g1 k1 P1 => ?_)
  refine hd.run _ _ _ _ _ _ tk (S.grow g1) (P1.imp fun d2 v2 Hs2 H2 e2 g2 k2 P2 => ?_)
  have rb := k1.rb.grow g2
  cases d1 <;> first | exact P2.elim | skip
  dsimp only [fMaxD] at P2
  split at P2
  · rename_i ns q
    obtain ⟨a, rfl, h1⟩ := rb.intsInv g2.sub q
    refine ⟨a, ns, v2, rfl, rfl, SqL.of h1, fun z => ?_, fun m hm hle => ?_⟩
    · rw [if_pos z] at P2
      exact P2 _ _ _ (Grow.refl g2.sub) (RK.val k2.rep)
    · have hle2 : ∀ y, y ∈ ns → y ≤ m := hle
      rw [if_neg (List.ne_nil_of_mem hm)] at P2
      rw [lmax_of hm hle2]
      exact P2.finV g2.sub (.int _)
  · exact P2.elim
end
end VL
end

noncomputable section
namespace VL
open PySem PySem.Spec PyProof.Rows L2
variable {md : Md}

def rRemD (K : PySem.W.Frag) : V → List V → Hp → VK → Prop := fun x xs H Q => ∃ (l : Addr) (vs : List V) (ds : List PyData) (y : V) (d : PyData) (j : Nat), x = .ref l ∧ xs = [y] ∧ H l = some (.lst vs) ∧ DpAll K H vs ds ∧ Dp K H y d ∧
  PyData.plainAll ds = true ∧ d.plain = true ∧ d.depth ≤ 64 ∧ SeqAt.dataPlace ds d = some j ∧ Q .non (upd H l (.lst (vs.eraseIdx j)))
theorem mt_removeD {X : Cx} (hu : X.A.units + 65 < cLine) : MtR X "list.remove" (rRemD X.K) := by
  intro pins s σ H x xs v us Q I rx rxs h
  obtain ⟨l, vs, ds, y, d, j, rfl, rfl, hH, hv, hy, p1, p2, dep, hp, q⟩ := h
  cases rx
  obtain ⟨u, rfl, ru⟩ := rxs.one
  obtain ⟨z, its, n, r, hl, e⟩ := I.lstM hH
  obtain ⟨as, r1⟩ := Dp.readsAll I ds _ its hv r
  obtain ⟨bs, r2⟩ := Dp.reads I d y u hy ru
  refine SeqAt.remove_list_data (l := l) (vs := its.toArray) ⟨_, e, rfl, n, rfl⟩ r1 r2 p1 p2 (by omega) hp (by rw [List.size_toArray]; omega) ?_
  refine ⟨.non, _, I.lset (its' := its.eraseIdx j) (t' := s.toks) hH e ?_ (r.eraseIdx j) ?_, rfl, q⟩
  · show its.toArray.eraseIdxIfInBounds j = (its.eraseIdx j).toArray
    rw [List.eraseIdxIfInBounds_toArray]
  · have z2 : (vs.eraseIdx j).length ≤ vs.length := List.length_eraseIdx_le _ _
    omega
theorem place_toPys (d : D) : ∀ ds : List D, SeqAt.dataPlace (toPys ds) (toPy d) = ds.findIdx? fun z => dEqB z d
  | [] => rfl
  | x :: xs => by
    have ih := place_toPys d xs
    unfold SeqAt.dataPlace at ih ⊢
    show List.findIdx? (fun y => PyData.eqv y (toPy d)) (toPy x :: toPys xs) = _
    rw [List.findIdx?_cons, List.findIdx?_cons, ih]
    rfl
theorem RepL.eraseIdx {cl : Cl} {H : Hp} : ∀ {ds : List D} {vs : List V}, RepL cl H ds vs → ∀ j, RepL cl H (ds.eraseIdx j) (vs.eraseIdx j)
  | _, _, .nil, _ => .nil
  | _, _, .cons a r, 0 => r
  | _, _, .cons a r, j + 1 => .cons a (RepL.eraseIdx r j)
section
variable {X : Cx} {E : En} {kr : Kd} {fin : List Kd → Prop} {ks ks' : List Kd} {e : Expr} {g : Sl → R D} {pos : Pos}
def remL (ds : List D) (d : D) : Option (List D) := if shp d && shp (.lst ds) then (ds.findIdx? fun z => dEqB z d).map fun j => ds.eraseIdx j else none
@[simp] def mRem (i : Nat) (g : Sl → R D) : Sl → O := fun r => match r[i]? with
  | some (some (.lst ds)) => onR (g r) r fun d => (match remL ds d with
    | some ds' => .nx (r.set i (some (.lst ds')))
    | none => .stuck)
  | _ => .stuck
theorem ss_remove {i : Nat} {n : Option Addr} {x : Str} {p1 p2 p3 : Pos} (hu : X.A.units + 65 < cLine) (he : SE X E ks .val e g) (hf : fin ks := by trivial) (hk : ks[i]? = some (.own n) := by rfl) (hN : X.N[i]? = some x := by rfl) (hv : Vis X.env.scope x := by first | exact Or.inl rfl | exact Or.inr (Or.inl rfl) | exact Or.inr (Or.inr rfl))
    (hq : NmOk x)
    (hs : swapsWith (.Call (.Attribute (.Name x p1) "remove" p2) [e] [] p3) none pos.line X.env = pure false := by rfl)
    (hbase : attributeBase (.Name x p1) "remove" X.env (eval (.Name x p1) X.env) = eval (.Name x p1) X.env := by rfl)
    (hfew : ((backTo p3 (starEach [e] X.env)).all (fun x => !x.1) && (backToKw p3 (keywordEach [] X.env)).all (fun x => x.1.isSome)
      && decide ([e].length + ([] : List Keyword).length + (if ([] : List Keyword).isEmpty then 0 else 1) < 30)) = true := by rfl)
    (hline : (p2.endLine == p3.line) = true := by rfl) (hst : starEach [e] X.env = (false, eval e X.env) :: starEach [] X.env := by rfl) (hplain : (backTo p3 (starEach [] X.env)).any (·.1) = false := by rfl) :
    SS X E kr fin ks (.Expr (.Call (.Attribute (.Name x p1) "remove" p2) [e] [] p3) pos) (mRem i g) ks := by
  refine ⟨fun Hs H r σ W Dn tk S P => ?_⟩
  refine ws_of (ps_expr (pe_bm PySem.F.plainAttrs_list PySem.F.slot_list_remove PySem.F.type_list_remove (mt_removeD hu) (pe_var hN hv hq.1 hq.2) (pa_cons pe_we pa_nil hst) hbase hfew hline hst hplain) hs) ?_
  unfold mRem at P
  split at P
  · rename_i ds q
    obtain ⟨a, xs, ea, h1, r1, _⟩ := S.mutL hk q
    refine ⟨.ref a, ea, tyV_lst h1, ?_⟩
    refine he.run _ _ _ _ _ _ tk S (Post.ofS hf S P fun d v Hs' H' e1 g1 k1 P1 => ?_)
    obtain ⟨a', xs', ea', h2, r2, up⟩ := (S.grow g1).mutL hk q
    rw [ea] at ea'
    cases ea'
    cases q2 : remL ds d with
    | none => rw [q2] at P1; exact P1.elim
    | some ds' =>
      rw [q2] at P1
      unfold remL at q2
      split at q2
      · rename_i hsh
        have h' : shp d = true ∧ shp (.lst ds) = true := by simpa using hsh
        cases q3 : ds.findIdx? fun z => dEqB z d with
        | none => rw [q3] at q2; cases q2
        | some j =>
          rw [q3] at q2
          cases q2
          have c1 := SeqAt.canLay_of_shaped h'.1
          have c2 := SeqAt.canLay_of_shaped h'.2
          have dep : (toPy d).depth ≤ 64 := of_decide_eq_true (Bool.and_eq_true_iff.mp h'.1).2
          have lay2 : PyData.canLayAll0 (toPys ds) = true := c2
          refine ⟨a, xs', toPys ds, v, toPy d, j, rfl, rfl, h2, ?_, ?_, PyData.plainAll_of_canLay0 _ lay2, PyData.plain_of_canLay0 _ c1, dep, ?_, P1 _ _ _ (up _ _ (r2.eraseIdx j))⟩
          · exact RepL.dp ds xs' lay2 (RepL.same g1.sub _ _ r2)
          · exact Rep.dp d v c1 (Rep.same g1.sub _ _ k1.rep)
          · rw [place_toPys]; exact q3
      · cases q2
  · exact P.elim
end
end VL
end

noncomputable section
namespace VL
open PySem PySem.Spec PyProof.Rows L2
variable {md : Md}

theorem upd_comm {H : Hp} {a b : Addr} {o u : HO} (h : a ≠ b) : upd (upd H a o) b u = upd (upd H b u) a o := by
  funext c
  by_cases h1 : c = a
  · rw [h1, upd_ne h, upd_same, upd_same]
  · rw [upd_ne h1]
    by_cases h2 : c = b
    · rw [h2, upd_same, upd_same]
    · rw [upd_ne h2, upd_ne h2, upd_ne h1]
theorem xat_mk {P : Program} {w : World} {K : PySem.W.Frag} {mg : Str → Option Value} {base : Heap} {cl : Cl} {C qual : Str} {a fI : Addr} {fd : FuncData} {st : Stmt} {p p1 p2 p3 : Pos} (T : OexC K a) (hcl : cl.f C = some a) (gm : mg C = some (.ref a))
    (iC : PySem.W.findIn K (.ref a) "__init__" = some (some (.ref fI))) (tI : PySem.W.typeIn K (.ref fI) = some (.type "function")) (hno : PySem.W.findIn K (.ref a) "at" = some none)
    (F : Fun K "__init__" qual st fI fd) (S : FnScope ["self", "at"] ["self", "at"] (defScope st)) (bn : Binds K fd ["self", "at"] []) (hb : defBody st = [.Assign [.Attribute (.Name "self" p1) "at" p2] (.Name "at" p3) p])
    (v1 : Vis (defScope st) "self") (v2 : Vis (defScope st) "at")
    (hs : ∀ X : Cx, X.env.scope = defScope st → swapsWith (.Name "at" p3) (some (.Attribute (.Name "self" p1) "at" p2)) p.line X.env = pure false) : XAt P w K mg base cl C 1 := by
  refine ⟨a, fI, fd, ["self", "at"], hcl, gm, T, iC, tI, bn, F.ok S (fun vs H Q E ⟨x, v, e, _⟩ => by rw [e] <;> rfl) fun cdv A outer s H vs Q E hr ⟨x, v, e, hx, q⟩ => ?_⟩
  subst e
  rw [hb]
  refine ⟨_, pss_one (ps_ost (pe_var (i := 0) rfl v1 (by decide) (by decide)) (pe_var (i := 1) rfl v2 (by decide) (by decide)) (hs _ rfl)), ?_⟩
  refine ⟨v, rfl, .ref x, rfl, x, a, rfl, T, hno, .inl ⟨hx, fun dx hd ne => ?_⟩⟩
  have := q dx hd ne
  rw [upd_comm (Ne.symm ne)] at this
  exact this
end VL
end

noncomputable section
namespace VL
open PySem PySem.Spec PyProof.Rows L2
open ModeZ

abbrev HdT := Value × Option Nat × (Addr → Value → Option Addr → TS)
section
variable {X : Cx} {body : List Stmt} {hd0 : ExceptHandler} {hds : List ExceptHandler} {l : List HdT} {pos : Pos} {tb : WX → TS} {Wo : WX}
end
end VL
end

noncomputable section
namespace VL
open PySem PySem.Spec PyProof.Rows L2
open ModeZ

section
variable {X : Cx} {E : En} {kr : Kd} {fin : List Kd → Prop} {ks ks' : List Kd}
end
end VL
end

noncomputable section
namespace VL
open PySem PySem.Spec PyProof.Rows L2
open ModeZ

section
variable {X : Cx} {pins : List (Addr × Obj)} {σ : L2.St} {H : Hp} {s : Shared}
theorem codeO_tbl {c : Addr} {q : Str} (ps : Array Value) : LamX.CodeO c q ≠ .tbl ps := fun z => by
  unfold LamX.CodeO at z
  cases z
end

end VL
end

noncomputable section
namespace VL
open PySem PySem.Spec PyProof.Rows L2
open ModeZ

theorem def_okT {P : Program} {w : World} {K : PySem.W.Frag} {mg : Str → Option Value} {base : Heap} {cl : Cl} {x qual : Str} {st : Stmt} {fa c B : Addr} {N ps : List Str} {k : Nat} {bs : List Bool} {kr : Kd} {ls ks' : List Kd} {m : Sl → O} {oc kV doc pm ct : Value} {od an : Option Addr} {osl : Array (Option Value)}
    (lk : K.lookup fa = some ⟨oc, od, .func (PySem.W.fnOf x qual (defArgs st) (defBody st) (defScope st) .none kV doc pm an (.ref c) ct), osl⟩) (hcd : PySem.W.codeIn K (.ref c) qual = true) (S : FnScope N ps (defScope st)) (hb : bs.length = ps.length) (hN : N.length = ps.length + ls.length) (fk : kr.fine = true) (ko : kr = .val ∨ kr = .own none)
    (body : ∀ (A : Around) (outer : List Env) (s : Shared) (H : Hp) (E : XK) (h0 s0 b0 : Hp), LamX.TabS h0 B lamQ → Room k (A.deeper (envOfC qual (defScope st) s.heap.objs.size fa (.ref c))) →
      SB (cxOf (L2.CX P w) P w K mg base N qual (defScope st) fa (.ref c) A outer s H E) ⟨cl, h0, s0, b0⟩ kr (fun _ => True) (bs.map kdOf ++ ls) (defBody st) m ks') :
    FnOk P w K mg base (L2.CX P w) (k + 1) fa (PySem.W.fnOf x qual (defArgs st) (defBody st) (defScope st) .none kV doc pm an (.ref c) ct) ps (fun vs H Q E => LamX.TabS H B lamQ ∧ spV cl bs kr (runF m ls.length) vs H Q E) := by
  refine fn_of lk hcd S (fun vs H Q E h => ?_) (fun A outer s H vs Q E hr h => ?_)
  · obtain ⟨_, ds, Hs, _, a, _⟩ := h
    rw [a.len.1, hb]
  · obtain ⟨htab, ds, Hs, e, a, p⟩ := h
    refine ⟨_, pss_ws, ?_⟩
    have tk : Takes (cxOf (L2.CX P w) P w K mg base N qual (defScope st) fa (.ref c) A outer s H E) (fun c dd _ H' => E c dd H') := takes_of rfl rfl rfl rfl
    have hst : L2.start N vs = vs.map some ++ List.replicate ls.length none := by
      unfold L2.start
      rw [a.len.1, hb, hN, Nat.add_sub_cancel_left]
    have S0 : StRel ⟨cl, H, Hs, H⟩ Hs H (bs.map kdOf ++ ls) (ds.map some ++ List.replicate ls.length none) (L2.start N vs) := by
      rw [hst]
      exact ⟨[], slots_start rfl a ls, List.nodup_nil, (fun a ha => nomatch ha), Same.refl _, e, Same.refl _, fun a z => .inl z, fun a z => z, fun _ z => z⟩
    refine (body A outer s H E H Hs H htab hr).run _ _ _ _ _ _ tk S0 ?_
    unfold runF at p
    cases q : m (ds.map some ++ List.replicate ls.length none) with
    | stuck => rw [q] at p; exact p
    | nx r =>
      rw [q] at p
      intro Hs' H' σ' S'
      have f := S'.facts
      refine p .non Hs' H' ⟨f.1, f.2.1, f.2.2.1, S'.sub, f.2.2.2⟩ ?_
      rcases ko with rfl | rfl
      · exact RK.val .non
      · exact RK.ownPlain rfl .non
    | rt d r =>
      rw [q] at p
      intro Hs' H' σ' v ks2 _ S'
      have f := S'.facts
      refine p v Hs' H' ⟨f.1, f.2.1, f.2.2.1, S'.sub, f.2.2.2⟩ ?_
      obtain ⟨As, s'⟩ := S'
      have sl := s'.sl
      cases sl with
      | cons o t =>
        rename_i A As'
        refine ⟨A, ORep.anyB kr _ _ _ fk o, (List.nodup_append.mp s'.nd).1, fun a ha => ?_⟩
        have z := s'.dis a (List.mem_append_left _ ha)
        exact ⟨z.1, z.2⟩
    | exc z r =>
      rw [q] at p
      intro Hs' H' σ' c dd ks2 _ S' xr
      have f := S'.facts
      exact p c dd Hs' H' ⟨f.1, f.2.1, f.2.2.1, S'.sub, f.2.2.2⟩ xr

def spLawT (K : PySem.W.Frag) (B : Addr) : Sp := fun vs H Q _ => ∃ (a : Addr) (ns : List Int), vs = [.ref a] ∧ SqL K H a (ns.map V.int) ∧ ns.length ≤ 63 ∧ H B = some (.tbl #[]) ∧ ∀ H', Q (.bl true) H'
theorem law_endT {P : Program} {w : World} {K : PySem.W.Frag} {mg : Str → Option Value} {base : Heap} {cl : Cl} {k : Nat} {b : Bool} {f : List D → R D} {fa B : Addr} {fd : FuncData} {x : Str} (hK : cl.K = K) (F : FnOk P w K mg base (L2.CX P w) k fa fd [x] (fun vs H Q E => LamX.TabS H B lamQ ∧ spV cl [b] .val f vs H Q E))
    (hf : ∀ ns : List Int, ns.length ≤ 63 → f [.scr ns] = .ok (.bl true)) (hk : k ≤ 65) : FnOk P w K mg base (L2.CX P w) 65 fa fd [x] (spLawT K B) := by
  refine (F.mono hk).imp ?_
  intro vs H Q E ⟨a, ns, e, hs, hl, ht, q⟩
  subst e
  refine ⟨LamX.TabS.nil ht, [.scr ns], H, Same.refl _, ?_, ?_⟩
  · have r : Rep cl H (.scr ns) (.ref a) := .scr (by rw [hK]; exact hs)
    cases b with
    | true => exact .val r .nil
    | false => exact .bor (.val r) .nil
  · rw [hf ns hl]
    intro v Hs' H' g rk
    obtain ⟨A, o, _⟩ := rk
    cases o with
    | val r =>
      cases r
      exact q H'
theorem law_walkT {l : PySem.W.OpenLaw} {q : Program} {loose : List Str} {XP : (Str → Option Value) → Heap → Prop} {YP : World → Heap → Prop} {d : DefRec} {K : Params → PySem.W.Frag} {x : Str} (hn : l.most = some 63) (hdf : d.params.defaults = [])
    (hY : ∀ (w : World) (h : Heap), YP w h → (K w.params).In h)
    (F : ∀ (w : World) (mg : Str → Option Value) (fa : Addr) (h : Heap), YP w h → (K w.params).In h → h.Ns mainGlobals mg → mg d.name = some (.ref fa) →
      ∃ (fd : FuncData) (c B : Addr), h.get? B = some { cls := .none, data := .fields #[] } ∧ (K w.params).lookup B = none ∧ PySem.W.CodeHd h c B ∧ (∀ (s : Shared) (u : Value), BindsTo s fd ⟨[u], []⟩ [(x, u)]) ∧
        ∀ base : Heap, (K w.params).In base → base.Ns mainGlobals mg → LamX.TabB base mg c B → FnOk l.prog w (K w.params) mg base (L2.CX l.prog w) 65 fa fd [x] (spLawT (K w.params) B)) :
    PySem.W.WalkO q loose XP YP l.row.toRowW d [] (fun f vs => PySem.call f vs) := by
  refine LamX.walk_ofTs (n := 63) (k := 65) (x := x) (CX := fun w => L2.CX l.prog w) hn (by decide) hdf ⟨rfl, by decide, by decide⟩ hY (fun w mg fa h Y KX G hm => ?_) fun _ _ _ _ _ z => cx_no z
  obtain ⟨fd, c, B, h1, h2, h3, h4, h5⟩ := F w mg fa h Y KX G hm
  refine ⟨fd, [(c, B)], spLawT (K w.params) B, fun p hp => ?_, fun p hp => ?_, fun p hp => ?_, h4, fun H a ns hl _ hT hS => ⟨a, ns, rfl, hS, hl, hT (c, B) (List.mem_singleton.mpr rfl), fun _ => rfl⟩, fun base b1 b2 b3 => h5 base b1 b2 (b3 (c, B) (List.mem_singleton.mpr rfl))⟩
  · rw [List.mem_singleton.mp hp]; exact h1
  · rw [List.mem_singleton.mp hp]; exact h2
  · rw [List.mem_singleton.mp hp]; exact h3
/-- where a law that makes lambdas stands -/
structure AtL (K : PySem.W.Frag) (mg : Str → Option Value) (x : Str) (st : Stmt) (c B : Addr) : Prop where
  ex : ∃ fa oc od kV doc pm an ct osl, mg x = some (.ref fa) ∧ K.lookup fa = some ⟨oc, od, .func (PySem.W.fnOf x x (defArgs st) (defBody st) (defScope st) .none kV doc pm an (.ref c) ct), osl⟩ ∧ PySem.W.codeIn K (.ref c) x = true
  hd : PySem.W.codeHdIn K c B = true
  no : K.lookup B = none
theorem atl_mk {K : PySem.W.Frag} {h : Heap} {mg : Str → Option Value} (X : K.In h) (G : h.Ns mainGlobals mg) {x : Str} {st : Stmt} {f c B : Addr} {od an : Option Addr} {sl : Array (Option Value)} {oc kV dc pm ct : Value}
    (a : PySem.W.nsIn K mainGlobals x = some (some (.ref f))) (l : K.lookup f = some ⟨oc, od, .func (PySem.W.fnOf x x (defArgs st) (defBody st) (defScope st) .none kV dc pm an (.ref c) ct), sl⟩) (cc : PySem.W.codeIn K (.ref c) x = true) (hd : PySem.W.codeHdIn K c B = true) (no : K.lookup B = none) :
    AtL K mg x st c B := ⟨⟨f, oc, od, kV, dc, pm, an, ct, sl, PySem.W.mg_of X G a, l, cc⟩, hd, no⟩
end VL
end

noncomputable section
namespace VL
open PySem PySem.Spec PyProof.Rows L2
open ModeZ

end VL
end

noncomputable section
namespace L2
open PySem PySem.Spec PyProof.Rows
section
variable {P : Program} {w : World} {A : Around} {E : Value → Shared → Prop} {s : Shared}
theorem call_set_listI {l : Addr} {items : Array Value} (ns : List Int) {Q : Value → Shared → Prop} (hh : A.handled = none) (hl : s.heap.IsList l items) (hit : IntsAre items.toList ns) (hb : ns.length + 1 < scanBound)
    (h : ∀ (h' : Heap) (tk c : Nat), SetR w h' s.heap.objs.size (fun j => decide (j ∈ ns)) c → c ≤ ns.length → (∀ b o, s.heap.get? b = some o → h'.get? b = some o) → Q (.ref s.heap.objs.size) { s with heap := h', toks := tk }) :
    wpAny (model P w) A (call (.type "set") [.ref l]) Q E s := by
  have hisz : items.size = ns.length := by
    have q := IntsAre.length hit
    rw [Array.length_toList] at q
    exact q
  obtain ⟨c, tl, hmro⟩ := F.called_set.mro
  have hmade := F.called_set.made
  have hsub := F.called_set.sub
  refine wpAny_call (codeAny_of_tree ?_)
  show wpAny _ _ (callAny (.type "set") _) _ _ _
  refine wpAny_pure ⟨Code.quiet_builtin _ (by decide +kernel), codeAny_builtin F.entry_type_call ?_⟩
  rw [Around.under_plain (weight_type_call_type "set" [.ref l] []) rfl]
  have h1 := F.called_set.notType
  have h2 := F.called_set.canCreate
  have hct := F.typeCall_set_1 (.ref l)
  repeat (any_goals (first | assumption | wp_step))

  refine codeAny_mono (code_set_led1 (.ref l) (E := E) (Q₁ := fun obj s₁ => obj = .ref s.heap.objs.size ∧ s₁ = { s with heap := s.heap.push { cls := .type "set", dict := none, data := .set #[] 0 (.fresh 0 0 (!w.params.followText "set-order")) } }) ⟨rfl, rfl⟩) fun r s₁ hr => ?_
  cases r with
  | error e => exact hr
  | ok fl =>
    cases fl with
    | ret obj =>
      obtain ⟨rfl, rfl⟩ := hr
      have hS : (s.heap.push { cls := .type "set", dict := none, data := .set #[] 0 (.fresh 0 0 (!w.params.followText "set-order")) }).get? s.heap.objs.size = some { cls := .type "set", dict := none, data := .set #[] 0 (.fresh 0 0 (!w.params.followText "set-order")) } := Heap.get?_push_size _ rfl
      have hT : Shared.TypeIs { s with heap := s.heap.push { cls := .type "set", dict := none, data := .set #[] 0 (.fresh 0 0 (!w.params.followText "set-order")) } } (.ref s.heap.objs.size) "set" := ⟨_, hS, rfl⟩
      have hli := F.called_set.init.lookup
      have hbi := F.called_set.init.bind (.ref s.heap.objs.size)
      repeat (any_goals (first | assumption | wp_step))

      refine codeAny_mono (codeAny_call_builtin (R := wants (fun r s₂ => r = .none ∧ ∃ h' tk c, s₂ = { s with heap := h', toks := tk } ∧ SetR w h' s.heap.objs.size (fun j => decide (j ∈ ns)) c ∧ c ≤ ns.length ∧
          (∀ b o, s.heap.get? b = some o → h'.get? b = some o)) E) F.called_set.init.plain F.entry_set_init (check_set_init_1 hT ?_)) fun r₂ s₂ hr₂ => ?_
      · obtain ⟨ol, hol, hcl, nl, hdl⟩ := hl
        obtain ⟨ocls, odict, odata, oslots⟩ := ol
        simp only at hcl hdl
        subst hcl; subst hdl
        have hol' : (s.heap.push { cls := .type "set", dict := none, data := .set #[] 0 (.fresh 0 0 (!w.params.followText "set-order")) }).get? l = some { cls := .type "list", dict := odict, data := .seq items nl, slots := oslots } := Heap.get?_push_of_some _ hol
        have hsls := F.sub_list_set
        have hslf := F.sub_list_frozenset
        have hne : (Value.type "list" == Value.type "dict") = false := by decide
        have hl1 : (s.heap.push { cls := .type "set", dict := none, data := .set #[] 0 (.fresh 0 0 (!w.params.followText "set-order")) }).IsList l items := ⟨_, hol', rfl, nl, rfl⟩
        unfold Builtin.«set.__init__» noKeywords Builtin.Frozenset.updateFrom
        generalize hPI : pyIter = PI
        wp_walk
        subst hPI

        refine wpAny_pyIter_list hl1 ?_
        refine wpAny_bind (wpAny_runValue ?_)
        have hlS : l < s.heap.objs.size := Heap.lt_size hol
        have hh3 : A.in1.in1.in1.handled = none := by simp [hh]
        have hz1 : (s.heap.push { cls := .type "set", dict := none, data := .set #[] 0 (.fresh 0 0 (!w.params.followText "set-order")) }).objs.size = s.heap.objs.size + 1 := Heap.size_push ..
        have hneI : l ≠ (s.heap.push { cls := .type "set", dict := none, data := .set #[] 0 (.fresh 0 0 (!w.params.followText "set-order")) }).objs.size := by
          rw [Heap.size_push]; exact Nat.ne_of_lt (Nat.lt_succ_of_lt hlS)
        have hSf : s.heap.objs.size ∉ [(s.heap.push { cls := .type "set", dict := none, data := .set #[] 0 (.fresh 0 0 (!w.params.followText "set-order")) }).objs.size, l] := by
          rw [Heap.size_push]; simp only [List.mem_cons, List.mem_singleton, List.not_mem_nil, or_false, not_or]
          exact ⟨Nat.ne_of_lt (Nat.lt_succ_self _), Nat.ne_of_gt hlS⟩
        have hval : ∀ (i : Nat) (v : Value), items[i]? = some v → ∃ k t, ns[i]? = some k ∧ v = .int k t := fun i v hv => by
          have hi : i < ns.length := by rw [← hisz]; exact (Array.getElem?_eq_some_iff.mp hv).1
          obtain ⟨t, e⟩ := PyProof.Rows.IntsAre.int_at hit i v (by rw [Array.getElem?_toList]; exact hv)
          refine ⟨ns[i], t, List.getElem?_eq_getElem hi, ?_⟩
          rw [e, List.getD_eq_getElem?_getD, List.getElem?_eq_getElem hi] <;> rfl
        refine set_update_ints ((Walks.list hh3 _ l hneI items).toS) s.heap.objs.size
          hSf ns hisz hb hval (items.size - 0) 0 _ (by omega) (Nat.zero_le _)
          ⟨⟨_, Heap.get?_push_size _ rfl, rfl, rfl⟩, (hl1.push _)⟩ ?hS0 ?hR
        case hS0 =>
          have hget : ((s.heap.push { cls := .type "set", dict := none, data := .set #[] 0 (.fresh 0 0 (!w.params.followText "set-order")) }).push { cls := .type "list_iterator", data := .fields #[.ref l, .int 0 0] }).get? s.heap.objs.size
              = some { cls := .type "set", dict := none, data := .set #[] 0 (.fresh 0 0 (!w.params.followText "set-order")) } := Heap.get?_push_of_some _ hS
          exact ⟨0, Nat.le_refl 0, setR_new_at hget⟩
        case hR =>
          intro s' c' hm hc' hS'
          obtain ⟨h', g2, d', tk', os'⟩ := s'
          have eg : g2 = s.gens := hm.gens
          have ed : d' = s.drawn := hm.drawn
          have eo : os' = s.os := hm.os
          subst eg; subst ed; subst eo
          show wpAny _ _ _ _ _ _
          refine wpAny_pure ?_
          show wpAny _ _ (ret Value.none) _ _ _
          rw [hisz] at hc'
          refine wpAny_pure ⟨rfl, h', tk', c', rfl, hS', hc', fun b o e => ?_⟩
          have hb0 : b < s.heap.objs.size := Heap.lt_size e
          have hb1 : b ≠ s.heap.objs.size := Nat.ne_of_lt hb0
          have hb2 : b ≠ (s.heap.push { cls := .type "set", dict := none, data := .set #[] 0 (.fresh 0 0 (!w.params.followText "set-order")) }).objs.size := by
            rw [Heap.size_push]; exact Nat.ne_of_lt (Nat.lt_succ_of_lt hb0)
          exact hm.heap b o (by simp only [List.mem_cons, List.mem_singleton, List.not_mem_nil, or_false, not_or]; exact ⟨hb1, hb2⟩) (Heap.get?_push_of_some _ (Heap.get?_push_of_some _ e))

      · cases r₂ with
        | error e => exact hr₂
        | ok fl₂ =>
          cases fl₂ with
          | ret r =>
            obtain ⟨rfl, h', tk, c', rfl, hS', hc', hk'⟩ := hr₂
            repeat (any_goals (first | assumption | wp_step))
            exact h _ _ _ hS' hc' hk'
          | _ => exact hr₂.elim
    | _ => exact hr.elim


end
end L2
namespace VL
open PySem PySem.Spec PyProof.Rows L2
variable {md : Md}

def rSetL (K : PySem.W.Frag) (w : World) : List V → Hp → VK → Prop := fun xs H Q => ∃ (l : Addr) (ns : List Int), xs = [.ref l] ∧ SqL K H l (ns.map V.int) ∧ ns.length + 1 < scanBound ∧ ∀ p c, H p = none → c ≤ ns.length → Q (.ref p) (upd H p (SetO w p (fun j => decide (j ∈ ns)) c))
theorem cr_setL {X : Cx} (hc : X.calm = true) : CallR X (.type "set") (rSetL X.K X.w) := by
  intro pins s σ H xs us Q I r h
  obtain ⟨l, ns, rfl, hs, hb, q⟩ := h
  rw [Vals.ref1 r]
  obtain ⟨its, rv, pl, hz⟩ := I.list hs
  refine call_set_listI ns (I.ok.hd hc) pl.isList (by simpa using ints_of_vals rv) hb fun h' tk c hS hc' hk => ?_
  exact ⟨.ref _, upd H s.heap.objs.size (SetO X.w s.heap.objs.size (fun j => decide (j ∈ ns)) c), I.laid (t' := tk) hk (Nat.le_refl _) (setO_new hS), rfl, q _ c (I.hok.fresh (Nat.le_refl _)) hc'⟩
def insSet (x : Int) : List Int → List Int
  | [] => [x]
  | y :: r => if y < x then y :: insSet x r else if y = x then y :: r else x :: y :: r
def sortSet : List Int → List Int
  | [] => []
  | x :: r => insSet x (sortSet r)
theorem insSet_mem (x : Int) : ∀ (l : List Int) (k : Int), k ∈ insSet x l ↔ k = x ∨ k ∈ l
  | [], k => by simp [insSet]
  | y :: r, k => by
    unfold insSet
    split
    · rw [List.mem_cons, insSet_mem x r k, List.mem_cons]
      constructor
      · rintro (h | h | h)
        · exact .inr (.inl h)
        · exact .inl h
        · exact .inr (.inr h)
      · rintro (h | h | h)
        · exact .inr (.inl h)
        · exact .inl h
        · exact .inr (.inr h)
    · split
      · rename_i e
        rw [e, List.mem_cons]
        constructor
        · exact fun h => .inr h
        · rintro (h | h)
          · exact .inl h
          · exact h
      · rw [List.mem_cons]
theorem sortSet_mem : ∀ (l : List Int) (k : Int), k ∈ sortSet l ↔ k ∈ l
  | [], k => by simp [sortSet]
  | x :: r, k => by
    unfold sortSet
    rw [insSet_mem, sortSet_mem r k, List.mem_cons]
theorem insSet_lt (x : Int) : ∀ {l : List Int}, l.Pairwise (· < ·) → (insSet x l).Pairwise (· < ·)
  | [], _ => List.pairwise_singleton _ _
  | y :: r, h => by
    obtain ⟨h1, h2⟩ := List.pairwise_cons.mp h
    unfold insSet
    split
    · rename_i q
      refine List.pairwise_cons.mpr ⟨fun z hz => ?_, insSet_lt x h2⟩
      rcases (insSet_mem x r z).mp hz with e | e
      · rw [e]; exact q
      · exact h1 z e
    · split
      · exact h
      · refine List.pairwise_cons.mpr ⟨fun z hz => ?_, h⟩
        rcases List.mem_cons.mp hz with e | e
        · rw [e]; omega
        · have := h1 z e; omega
theorem sortSet_lt : ∀ l : List Int, (sortSet l).Pairwise (· < ·)
  | [] => List.Pairwise.nil
  | x :: r => insSet_lt x (sortSet_lt r)
theorem lt_unique : ∀ {a b : List Int}, a.Pairwise (· < ·) → b.Pairwise (· < ·) → (∀ k, k ∈ a ↔ k ∈ b) → a = b
  | [], [], _, _, _ => rfl
  | [], y :: b, _, _, h => absurd ((h y).mpr List.mem_cons_self) (by simp)
  | x :: a, [], _, _, h => absurd ((h x).mp List.mem_cons_self) (by simp)
  | x :: a, y :: b, ha, hb, h => by
    obtain ⟨a1, a2⟩ := List.pairwise_cons.mp ha
    obtain ⟨b1, b2⟩ := List.pairwise_cons.mp hb
    have e : x = y := by
      rcases List.mem_cons.mp ((h x).mp List.mem_cons_self) with z | z
      · exact z
      · rcases List.mem_cons.mp ((h y).mpr List.mem_cons_self) with w | w
        · exact w.symm
        · have := b1 x z; have := a1 y w; omega
    subst e
    rw [lt_unique a2 b2 fun k => ?_]
    have := h k
    rw [List.mem_cons, List.mem_cons] at this
    constructor
    · intro z
      rcases this.mp (.inr z) with e | e
      · have := a1 k z; omega
      · exact e
    · intro z
      rcases this.mpr (.inr z) with e | e
      · have := b1 k z; omega
      · exact e
theorem insSet_len (x : Int) : ∀ l : List Int, (insSet x l).length ≤ l.length + 1
  | [] => by simp [insSet]
  | y :: r => by
    unfold insSet
    have := insSet_len x r
    split
    · simp; omega
    · split <;> simp
theorem sortSet_len : ∀ l : List Int, (sortSet l).length ≤ l.length
  | [] => by simp [sortSet]
  | x :: r => by
    unfold sortSet
    have := insSet_len x (sortSet r)
    have := sortSet_len r
    rw [List.length_cons]; omega
def dSet (d : D) : R D := match d with
  | .lst ds => match intsOf ds with
    | some ns => if ns.length ≤ 63 then .ok (.lst ((sortSet ns).map D.int)) else .stuck
    | none => .stuck
  | _ => .stuck
def gCnt (ga gb : Sl → R D) : Sl → R D := fun r => match ga r with
  | .ok (.lst ds) => match intsOf ds with
    | some ns => match gb r with
      | .ok (.int k) => .ok (.int (ns.count k : Nat))
      | .exc x => .exc x
      | _ => .stuck
    | none => .stuck
  | .exc x => .exc x
  | _ => .stuck
section
variable {X : Cx} {E : En} {ks : List Kd} {e o : Expr} {g ga gb : Sl → R D} {p p1 p2 q pos apos cpos : Pos}
theorem se_sortedSet (B : Bl X.mg) (he : SE X E ks .bor e g) (hc : X.calm = true := by rfl) (hg : Gl X "sorted" := by rfl) (hg2 : Gl X "set" := by rfl)
    (hs : starEach [.Call (.Name "set" p2) [e] [] q] X.env = (false, eval (.Call (.Name "set" p2) [e] [] q) X.env) :: starEach [] X.env := by rfl) (hs2 : starEach [e] X.env = (false, eval e X.env) :: starEach [] X.env := by rfl)
    (hpl : (backTo pos (starEach [] X.env)).any (·.1) = false := by rfl) (hpl2 : (backTo q (starEach [] X.env)).any (·.1) = false := by rfl) :
    SE X E ks (.own none) (.Call (.Name "sorted" p1) [.Call (.Name "set" p2) [e] [] q] [] pos) (gUn dSet g) := by
  refine ⟨fun Hs H r σ W Q tk S P => ?_⟩
  refine we_of (pe_callB (cr_sortedSet hc) hg B.sorted bb_sorted (pa_cons (pe_callTy (cr_setL hc) hg2 B.set bb_set (pa_cons pe_we pa_nil hs2) (by decide) (by decide) hs2 hpl2) pa_nil hs) (by decide) (by decide) hs hpl) ?_
  refine he.run _ _ _ _ _ _ tk S (P.imp fun d v Hs1 H1 e1 g1 k1 P1 => ?_)
  unfold dSet at P1
  cases d <;> first | exact P1.elim | skip
  dsimp only at P1
  split at P1
  · rename_i ns qn
    split at P1
    · rename_i hl
      obtain ⟨a, rfl, h1⟩ := k1.rb.intsInv g1.sub qn
      refine ⟨a, ns, rfl, SqL.of h1, by unfold scanBound; omega, fun p c hp hc => ?_⟩
      have g2 := Grow.fresh (o := SetO X.w p (fun j => decide (j ∈ ns)) c) g1.sub hp
      refine ⟨p, _, c, rfl, upd_same, by omega, fun ns' p' pw hm hlen hp' => ?_⟩
      have z : ns' = sortSet ns := lt_unique pw (sortSet_lt ns) fun k => by rw [hm k, sortSet_mem]; simp
      rw [z]
      exact (P1.grow g2).finL g2.sub hp' (RepL.ofInts _)
    · exact P1.elim
  · exact P1.elim
theorem se_cnt (ho : SE X E ks .bor o ga) (he : SE X E ks .bor e gb)
    (hbase : attributeBase o "count" X.env (eval o X.env) = eval o X.env := by rfl)
    (hfew : ((backTo cpos (starEach [e] X.env)).all (fun x => !x.1) && (backToKw cpos (keywordEach [] X.env)).all (fun x => x.1.isSome)
      && decide (([e] : List Expr).length + ([] : List Keyword).length + (if ([] : List Keyword).isEmpty then 0 else 1) < 30)) = true := by rfl)
    (hline : (apos.endLine == cpos.line) = true := by rfl) (hs : starEach [e] X.env = (false, eval e X.env) :: starEach [] X.env := by rfl) (hplain : (backTo cpos (starEach [] X.env)).any (·.1) = false := by rfl) :
    SE X E ks .val (.Call (.Attribute o "count" apos) [e] [] cpos) (gCnt ga gb) := by
  refine ⟨fun Hs H r σ W Q tk S P => ?_⟩
  refine we_of (pe_bm PySem.F.plainAttrs_list PySem.F.slot_list_count PySem.F.type_list_count mt_lcount pe_we (pa_cons pe_we pa_nil hs) hbase hfew hline hs hplain) ?_
  refine ho.run _ _ _ _ _ _ tk S ?_
  unfold gCnt at P
  cases q1 : ga r with
  | stuck => rw [q1] at P; exact P.elim
  | exc x => rw [q1] at P; exact P
  | ok d =>
    rw [q1] at P
    intro v Hs1 H1 g1 k1
    split at P
    · rename_i ds qd
      cases qd
      split at P
      · rename_i ns qn
        obtain ⟨a, rfl, h1⟩ := k1.rb.intsInv g1.sub qn
        refine ⟨.inl ⟨rfl, _, SqL.of h1⟩, ?_⟩
        refine he.run _ _ _ _ _ _ tk (S.grow g1) ?_
        replace P := P.grow g1
        cases q2 : gb r with
        | stuck => rw [q2] at P; exact P.elim
        | exc x => rw [q2] at P; exact P
        | ok d2 =>
          rw [q2] at P
          intro v2 Hs2 H2 g2 k2
          cases d2 <;> first | exact P.elim | skip
          cases k2.rb.intInv
          have h2 := ((k1.rb.grow g2).intsInv g2.sub qn)
          obtain ⟨a2, ea, h2⟩ := h2
          cases ea
          exact ⟨a, ns, _, rfl, rfl, SqL.of h2, (P.grow g2).finV g2.sub (.int _)⟩
      · exact P.elim
    · rename_i qx; cases qx
    · exact P.elim
end
end VL
end

noncomputable section
namespace VL
open PySem PySem.Spec PyProof.Rows L2
variable {md : Md}

def keyD : Key → D
  | .inl i => .int i
  | .inr x => .str x
def valD (ds : List (Key × D)) (k : Key) : Option D := (ds.find? fun kv => decide (kv.1 = k)).map (·.2)
theorem valD_pos {p : Key × D} {r : List (Key × D)} {k : Key} (e : p.1 = k) : valD (p :: r) k = some p.2 := by simp [valD, List.find?_cons, e]
theorem valD_neg {p : Key × D} {r : List (Key × D)} {k : Key} (e : ¬ p.1 = k) : valD (p :: r) k = valD r k := by simp [valD, List.find?_cons, e]
def putD (ds : List (Key × D)) (k : Key) (d : D) : List (Key × D) :=
  if (ds.any fun kv => decide (kv.1 = k)) = true then ds.map (fun kv => if kv.1 = k then (kv.1, d) else kv) else ds ++ [(k, d)]
theorem keyRep {cl : Cl} {H : Hp} (k : Key) : Rep cl H (keyD k) (kV k) := by
  cases k with
  | inl i => exact .int i
  | inr x => exact .str x
section
variable {cl : Cl} {H : Hp}
theorem RepK.len : ∀ {ds : List (Key × D)} {xs : List (Key × V)}, RepK cl H ds xs → xs.length = ds.length
  | [], _, h => by cases h; rfl
  | _ :: _, _, h => by
    cases h with
    | cons _ h2 => rw [List.length_cons, List.length_cons, RepK.len h2]
theorem RepK.get : ∀ {ds : List (Key × D)} {xs : List (Key × V)} {i : Nat} {p : Key × D}, RepK cl H ds xs → ds[i]? = some p → ∃ v, xs[i]? = some (p.1, v) ∧ Rep cl H p.2 v
  | [], _, _, _, _, e => by simp at e
  | _ :: _, _, 0, _, h, e => by
    cases h with
    | cons h1 h2 => cases e; exact ⟨_, rfl, h1⟩
  | _ :: _, _, i + 1, _, h, e => by
    cases h with
    | cons h1 h2 => exact RepK.get (i := i) h2 e
theorem RepK.app : ∀ {ds es : List (Key × D)} {xs ys : List (Key × V)}, RepK cl H ds xs → RepK cl H es ys → RepK cl H (ds ++ es) (xs ++ ys)
  | [], _, _, _, h, g => by cases h; exact g
  | _ :: _, _, _, _, h, g => by
    cases h with
    | cons h1 h2 => exact .cons h1 (RepK.app h2 g)
theorem RepK.any (k : Key) : ∀ {ds : List (Key × D)} {xs : List (Key × V)}, RepK cl H ds xs → (xs.any fun kv => decide (kv.1 = k)) = ds.any fun kv => decide (kv.1 = k)
  | [], _, h => by cases h; rfl
  | _ :: _, _, h => by
    cases h with
    | cons h1 h2 => rw [List.any_cons, List.any_cons, RepK.any k h2]
theorem RepK.map (k : Key) {d : D} {v : V} (r : Rep cl H d v) : ∀ {ds : List (Key × D)} {xs : List (Key × V)}, RepK cl H ds xs → RepK cl H (ds.map fun kv => if kv.1 = k then (kv.1, d) else kv) (xs.map fun kv => if kv.1 = k then (kv.1, v) else kv)
  | [], _, h => by cases h; exact .nil
  | (k0, d0) :: _, _, h => by
    cases h with
    | cons h1 h2 =>
      rw [List.map_cons, List.map_cons]
      by_cases c : k0 = k
      · rw [if_pos c, if_pos c]; exact .cons r (RepK.map k r h2)
      · rw [if_neg c, if_neg c]; exact .cons h1 (RepK.map k r h2)
theorem RepK.put {ds : List (Key × D)} {xs : List (Key × V)} (h : RepK cl H ds xs) (k : Key) {d : D} {v : V} (r : Rep cl H d v) : RepK cl H (putD ds k d) (putK xs k v) := by
  unfold putD putK
  rw [h.any k]
  split
  · exact h.map k r
  · exact h.app (.cons r .nil)
theorem RepK.val (k : Key) : ∀ {ds : List (Key × D)} {xs : List (Key × V)}, RepK cl H ds xs → ∀ {d0 : D} {v0 : V}, Rep cl H d0 v0 → Rep cl H ((valD ds k).getD d0) ((valV xs k).getD v0)
  | [], _, h, _, _, r => by cases h; exact r
  | (k0, d0) :: _, _, h, _, _, r => by
    cases h with
    | cons h1 h2 =>
      by_cases c : k0 = k
      · rw [valD_pos c, valV_pos c]; exact h1
      · rw [valD_neg c, valV_neg c]; exact RepK.val k h2 r
end
section
variable {E : En} {Hs H : Hp} {ks : List Kd} {r : Sl} {σ : L2.St}
theorem Slots.monoB {E' : En} (c : E'.cl = E.cl) (n : E'.h = E.h) (b : Same E.b E'.b) {H' : Hp} : ∀ {ks : List Kd} {r : Sl} {t : L2.St} {As : List Addr}, (∀ a ∈ As, H' a = H a) → Slots E Hs H ks r t As → Slots E' Hs H' ks r t As
  | _, _, _, _, _, .nil => .nil
  | _, _, _, _, k, .skip h => .skip (Slots.monoB c n b k h)
  | _, _, _, _, k, .cons h1 h2 => .cons (by rw [c]; exact ORep.mono (Same.refl _) b (fun a z => by show E'.h a = none; rw [n]; exact z) _ _ _ _ (fun a ha => k a (List.mem_append_left _ ha)) h1) (Slots.monoB c n b (fun a ha => k a (List.mem_append_right _ ha)) h2)
/-- the dict in slot i is locked: its name holds an address alone -/
theorem StRel.lock {i : Nat} {n : Option Addr} {ds : List (Key × D)} (S : StRel E Hs H ks r σ) (hk : ks[i]? = some (.own n)) (hd : r[i]? = some (some (.dct ds))) :
    ∃ a xs, σ[i]? = some (some (.ref a)) ∧ H a = some (.dK xs) ∧ RepK E.cl Hs ds xs ∧ Hs a = none ∧
      ∀ od, StRel ⟨E.cl, E.h, Hs, upd E.b a (.frz od (.dK xs))⟩ Hs (upd H a (.frz od (.dK xs))) (ks.set i (.adr a)) (r.set i (some .non)) σ := by
  obtain ⟨As, S⟩ := S
  obtain ⟨pre, A, post, e, q1, q2, _, _⟩ := S.sl.at_ i hk
  obtain ⟨v, ev, o⟩ := q1 _ hd
  cases o with
  | ownV h0 h1 => cases h0
  | ownK h0 h1 h2 =>
    rename_i a xs
    have ha : a ∈ As := by rw [e]; exact List.mem_append_right _ (List.mem_append_left _ (by simp))
    have dz := S.dis a ha
    refine ⟨a, xs, ev, h1, h2, dz.1, fun od => ?_⟩
    have nd := S.nd
    rw [e] at nd
    have hn : ∀ b ∈ pre ++ post, b ≠ a := fun b hb z => by
      subst z
      rcases List.mem_append.mp hb with w | w
      · exact (List.nodup_append.mp nd).2.2 _ w _ (List.mem_append_left _ (by simp)) rfl
      · exact (List.nodup_append.mp (List.nodup_append.mp nd).2.1).2.2 _ (by simp) _ w rfl
    have z0 := q2 (.adr a) .non (.ref a) [] .adr
    have e3 : σ.set i (some (.ref a)) = σ := by
      obtain ⟨h, e2⟩ := List.getElem?_eq_some_iff.mp ev
      rw [← e2, List.set_getElem_self]
    rw [e3, List.nil_append] at z0
    have bs : Same E.b (upd E.b a (.frz od (.dK xs))) := Same.updNew dz.2
    have z := Slots.monoB (E := E) (E' := ⟨E.cl, E.h, Hs, upd E.b a (.frz od (.dK xs))⟩) (H' := upd H a (.frz od (.dK xs))) rfl rfl bs (fun b hb => upd_ne (hn b hb)) z0
    have sub : (pre ++ post).Sublist As := by
      rw [e]
      exact List.Sublist.append (List.Sublist.refl _) (List.sublist_append_right _ _)
    refine ⟨_, z, S.nd.sublist sub, fun b hb => ⟨(S.dis b (sub.subset hb)).1, ?_⟩, Same.refl _, ⟨fun b u q nt => ?_⟩, S.eb.updBoth, fun b z => .inl z, fun b q => ?_, fun P z => tab_mut h1 P (S.tb P z)⟩
    · show upd E.b a _ b = none
      rw [upd_ne (hn b hb)]
      exact (S.dis b (sub.subset hb)).2
    · have : b ≠ a := fun w => by rw [w, dz.1] at q; cases q
      rw [upd_ne this] at nt ⊢
      exact S.sub.k _ _ q nt
    · have : b ≠ a := fun w => by rw [w, upd_same] at q; cases q
      rw [upd_ne this] at q
      exact S.dom _ q
end
section
variable {X : Cx} {E : En} {kr : Kd} {fin : List Kd → Prop} {ks ks' : List Kd} {e f b : Expr} {ge gf gb g : Sl → R D} {pos p1 p2 apos cpos : Pos}
end
end VL
end

noncomputable section
namespace VL
open PySem PySem.Spec PyProof.Rows L2
variable {md : Md}

section
variable {X : Cx} {E : En} {ks : List Kd} {a b : Expr} {ga gb : Sl → R D} {p p2 q pos : Pos}
end
end VL
end

noncomputable section
namespace VL
open PySem PySem.Spec PyProof.Rows L2
variable {md : Md}

theorem ItOk.rev {K : PySem.W.Frag} {cl : Cl} {a : Addr} {xs : List V} {ds : List D} {Hs Bq : Hp} (rp : RepL cl Hs ds xs) (rt : ∀ Hs' H, Same Hs Hs' → Same Hs' H → Same Bq H → H a = some (.lst xs)) (hz : xs.length ≤ szL) : ItOk cl (Itv K a xs.length) ds.reverse Hs Bq where
  len := by rw [List.length_reverse, ← rp.length]; exact hz
  go := fun Hs' H e1 e2 e3 i hi => by
    rw [List.length_reverse, ← rp.length] at hi
    exact ⟨hi, xs, xs[xs.length - 1 - i], SqL.of (rt Hs' H e1 e2 e3), List.getElem?_eq_getElem (by omega)⟩
  stop := fun Hs' H e1 e2 e3 => by rw [List.length_reverse, ← rp.length]; exact Nat.le_refl _
  yld := fun Hs' H e1 e2 e3 i d x H' hd y => by
    obtain ⟨rfl, y⟩ := y
    have hi : i < ds.length := by
      have := (List.getElem?_eq_some_iff.mp hd).1
      rwa [List.length_reverse] at this
    rw [List.getElem?_reverse hi] at hd
    obtain ⟨v, e, r⟩ := rp.get hd
    have q := y xs (SqL.of (rt Hs' _ e1 e2 e3))
    rw [rp.length, e] at q
    cases q
    exact ⟨Hs', Grow.refl e2, Rep.same e1 _ _ r⟩
section
variable {X : Cx} {E : En} {ks : List Kd} {md : Bool} {tg e : Expr} {g : Sl → R D} {p pos : Pos}
end
end VL
end

noncomputable section
namespace VL
open PySem PySem.Spec PyProof.Rows L2
variable {md : Md}

def sans (H : Hp) (A : List Addr) : Hp := fun a => if a ∈ A then none else H a
section
variable {H H' Hs : Hp} {A : List Addr} {a : Addr}
theorem sans_in (h : a ∈ A) : sans H A a = none := by unfold sans; rw [if_pos h]
theorem sans_out (h : a ∉ A) : sans H A a = H a := by unfold sans; rw [if_neg h]
theorem sans_none (h : sans H A a = none) : a ∈ A ∨ H a = none := by
  by_cases z : a ∈ A
  · exact .inl z
  · rw [sans_out z] at h; exact .inr h
theorem sans_sub (e : Same Hs H) (z : ∀ a ∈ A, Hs a = none) : Same Hs (sans H A) := ⟨fun b o q nt => by
  have hn : b ∉ A := fun w => by rw [z b w] at q; cases q
  rw [sans_out hn] at nt ⊢
  exact e.k _ _ q nt⟩
end
section
variable {cl : Cl} {N N' : Addr → Prop} {B B' Hs H : Hp}
mutual
/-- another way to say what is new -/
theorem ORep.renew : ∀ (k : Kd) (d : D) (v : V) (A : List Addr), k.fine = true → (∀ a ∈ A, N' a) → ORep cl N B Hs H k d v A → ORep cl N' B' Hs H k d v A
  | .val, _, _, _, _, _, h => by
    cases h with
    | val h1 => exact .val h1
  | .bor, _, _, _, z, _, _ => by cases z
  | .own n, _, _, _, _, z, h => by
    cases h with
    | ownL h0 h1 h2 => exact .ownL ⟨z _ List.mem_cons_self, h0.2⟩ h1 h2
    | ownK h0 h1 h2 => exact .ownK ⟨z _ List.mem_cons_self, h0.2⟩ h1 h2
    | ownV h0 h1 => exact .ownV h0 h1
  | .obj n ks, _, _, _, f, z, h => by
    cases h with
    | obj h0 h1 h2 h3 => exact .obj ⟨z _ List.mem_cons_self, h0.2⟩ h1 h2 (OFs.renew ks _ _ _ (by simpa [Kd.fine] using f) (fun a ha => z a (List.mem_cons_of_mem _ ha)) h3)
  | .adr _, _, _, _, z, _, _ => by cases z
  | .lls n k, _, _, _, f, z, h => by
    cases h with
    | lls h0 h1 h2 => exact .lls ⟨z _ List.mem_cons_self, h0.2⟩ h1 (OLs.imp (fun A => ∀ a ∈ A, N' a) (fun _ _ t a ha => t a (List.mem_append_left _ ha)) (fun _ _ t a ha => t a (List.mem_append_right _ ha)) (fun d v A t o => ORep.renew k d v A f t o) (fun a ha => z a (List.mem_cons_of_mem _ ha)) h2)
    | llT h0 h1 h2 => exact .llT ⟨z _ List.mem_cons_self, h0.2⟩ h1 (OLs.imp (fun A => ∀ a ∈ A, N' a) (fun _ _ t a ha => t a (List.mem_append_left _ ha)) (fun _ _ t a ha => t a (List.mem_append_right _ ha)) (fun d v A t o => ORep.renew k d v A f t o) (fun a ha => z a (List.mem_cons_of_mem _ ha)) h2)
    | llV h0 h1 => exact .llV h0 h1
theorem OFs.renew : ∀ (ks : List (Str × Kd)) (ds : List (Str × D)) (xs : List (Str × V)) (A : List Addr), Kd.fine.fines ks = true → (∀ a ∈ A, N' a) → OFs cl N B Hs H ks ds xs A → OFs cl N' B' Hs H ks ds xs A
  | [], _, _, _, _, _, h => by cases h; exact .nil
  | (f, k) :: ks, _, _, _, fz, z, h => by
    have z' : k.fine = true ∧ Kd.fine.fines ks = true := by simpa [Kd.fine.fines] using fz
    cases h with
    | cons h1 h2 => exact .cons (ORep.renew k _ _ _ z'.1 (fun a ha => z a (List.mem_append_left _ ha)) h1) (OFs.renew ks _ _ _ z'.2 (fun a ha => z a (List.mem_append_right _ ha)) h2)
end
/-- several things that are lent -/
inductive RM (cl : Cl) (N : Addr → Prop) (B Hs H : Hp) : List Kd → List D → List V → List Addr → Prop
  | nil : RM cl N B Hs H [] [] [] []
  | cons {k : Kd} {d : D} {v : V} {A As : List Addr} {ks : List Kd} {ds : List D} {vs : List V} : ORep cl N B Hs H k d v A → RM cl N B Hs H ks ds vs As → RM cl N B Hs H (k :: ks) (d :: ds) (v :: vs) (A ++ As)
theorem RM.renew : ∀ {ks : List Kd} {ds : List D} {vs : List V} {A : List Addr}, ks.all Kd.fine = true → (∀ a ∈ A, N' a) → RM cl N B Hs H ks ds vs A → RM cl N' B' Hs H ks ds vs A
  | _, _, _, _, _, _, .nil => .nil
  | _, _, _, _, f, z, .cons o t => by
    have f' := f
    rw [List.all_cons, Bool.and_eq_true] at f'
    exact .cons (ORep.renew _ _ _ _ f'.1 (fun a ha => z a (List.mem_append_left _ ha)) o) (RM.renew f'.2 (fun a ha => z a (List.mem_append_right _ ha)) t)
theorem RM.mono {Hs' H' : Hp} (e : Same Hs Hs') : ∀ {ks : List Kd} {ds : List D} {vs : List V} {A : List Addr}, (∀ a ∈ A, H' a = H a) → RM cl N B Hs H ks ds vs A → RM cl N B Hs' H' ks ds vs A
  | _, _, _, _, _, .nil => .nil
  | _, _, _, _, q, .cons o t => .cons (ORep.mono e (Same.refl _) (fun _ z => z) _ _ _ _ (fun a ha => q a (List.mem_append_left _ ha)) o) (RM.mono e (fun a ha => q a (List.mem_append_right _ ha)) t)
theorem RM.len : ∀ {ks : List Kd} {ds : List D} {vs : List V} {A : List Addr}, RM cl N B Hs H ks ds vs A → ds.length = ks.length ∧ vs.length = ks.length
  | _, _, _, _, .nil => ⟨rfl, rfl⟩
  | _, _, _, _, .cons o t => by simp [RM.len t]
end
section
variable {E : En} {Hs H Hs' H' : Hp} {ks : List Kd} {r : Sl} {σ : L2.St} {As : List Addr}
theorem StRel.pop {k : Kd} {o : Option D} {v : Option V} (S : StRel E Hs H (k :: ks) (o :: r) (v :: σ)) : StRel E Hs H ks r σ := by
  obtain ⟨As, S⟩ := S
  have sl := S.sl
  cases sl with
  | skip t => exact ⟨_, t, S.nd, S.dis, S.es, S.sub, S.eb, S.new, S.dom, S.tb⟩
  | cons o t => exact ⟨_, t, (List.nodup_append.mp S.nd).2.1, fun a ha => S.dis a (List.mem_append_right _ ha), S.es, S.sub, S.eb, S.new, S.dom, S.tb⟩
end
def Kd.re (n : Option Addr) : Kd → Kd
  | .own _ => .own n
  | .obj _ ks => .obj n ks
  | .lls _ k => .lls n k
  | k => k
section
variable {cl : Cl} {N : Addr → Prop} {B Hs H : Hp} {d : D} {v : V} {A : List Addr} {n : Option Addr} {kk : List (Str × Kd)}
theorem ORep.unpinO {a : Addr} (h : ORep cl N B Hs H (.obj (some a) kk) d v A) (hn : ∀ b, n = some b → b = a) : ORep cl N B Hs H (.obj n kk) d v A := by
  cases h with
  | obj h0 h1 h2 h3 =>
    have e := h0.2 _ rfl
    subst e
    exact .obj ⟨h0.1, hn⟩ h1 h2 h3
end
end VL
end

noncomputable section
namespace VL
open PySem PySem.Spec PyProof.Rows L2
variable {md : Md}

section
variable {cl : Cl} {N : Addr → Prop} {B Hs H : Hp}
theorem OFs.names : ∀ {ks : List (Str × Kd)} {ds : List (Str × D)} {xs : List (Str × V)} {As : List Addr}, OFs cl N B Hs H ks ds xs As → xs.map (·.1) = ks.map (·.1) ∧ ds.map (·.1) = ks.map (·.1)
  | _, _, _, _, .nil => ⟨rfl, rfl⟩
  | _, _, _, _, .cons o t => by simp [t.names]
theorem OFs.pos {f : Str} {k : Kd} : ∀ {ks : List (Str × Kd)} {ds : List (Str × D)} {xs : List (Str × V)} {As : List Addr} (j : Nat), OFs cl N B Hs H ks ds xs As → ks[j]? = some (f, k) →
    ∃ pre A post d v, As = pre ++ (A ++ post) ∧ ds[j]? = some (f, d) ∧ xs[j]? = some (f, v) ∧ ORep cl N B Hs H k d v A ∧
      ∀ Hs' H', Same Hs Hs' → (∀ a ∈ pre ++ post, H' a = H a) → ∀ k' d' v' A', ORep cl N B Hs' H' k' d' v' A' → OFs cl N B Hs' H' (ks.set j (f, k')) (ds.set j (f, d')) (xs.set j (f, v')) (pre ++ (A' ++ post))
  | _, _, _, _, j, .nil, e => by simp at e
  | _, _, _, _, 0, .cons (A := A) (As := As) o t, e => by
    simp at e
    obtain ⟨rfl, rfl⟩ := e
    exact ⟨[], A, As, _, _, rfl, rfl, rfl, o, fun Hs' H' s q k' d' v' A' o' => .cons (A := A') (As := As) o' (OFs.mono s (Same.refl _) (fun _ z => z) _ _ _ As (fun a ha => q a ha) t)⟩
  | _, _, _, _, j + 1, .cons (A := A0) o t, e => by
    obtain ⟨pre, A, post, d, v, e1, e2, e3, e4, e5⟩ := OFs.pos j t (by simpa using e)
    refine ⟨A0 ++ pre, A, post, d, v, by rw [e1, List.append_assoc], by simpa using e2, by simpa using e3, e4, fun Hs' H' s q k' d' v' A' o' => ?_⟩
    rw [List.append_assoc]
    exact .cons (ORep.mono s (Same.refl _) (fun _ z => z) _ _ _ _ (fun a ha => q a (List.mem_append_left _ (List.mem_append_left _ ha))) o)
      (e5 Hs' H' s (fun a ha => q a (by
        rcases List.mem_append.mp ha with z | z
        · exact List.mem_append_left _ (List.mem_append_right _ z)
        · exact List.mem_append_right _ z)) k' d' v' A' o')
theorem OFs.snoc {f : Str} {k : Kd} {d : D} {v : V} {A : List Addr} (o : ORep cl N B Hs H k d v A) : ∀ {ks : List (Str × Kd)} {ds : List (Str × D)} {xs : List (Str × V)} {As : List Addr}, OFs cl N B Hs H ks ds xs As → OFs cl N B Hs H (ks ++ [(f, k)]) (ds ++ [(f, d)]) (xs ++ [(f, v)]) (As ++ A)
  | _, _, _, _, .nil => by
    have z := OFs.cons (f := f) o (.nil (cl := cl) (N := N) (B := B) (Hs := Hs) (H := H))
    rw [List.append_nil] at z
    exact z
  | _, _, _, _, .cons o1 t => by
    rw [List.append_assoc]
    exact .cons o1 (OFs.snoc o t)
end
section
variable {E : En} {Hs H Hs' H' : Hp} {ks : List Kd} {r : Sl} {σ : L2.St} {i j : Nat} {n : Option Addr} {kk : List (Str × Kd)} {k : Kd} {f C : Str} {d d0 : D} {ds : List (Str × D)} {v : V}
end
section
variable {X : Cx} {E : En} {fin : List Kd → Prop} {kr : Kd} {ks ks' : List Kd} {i j : Nat} {n : Option Addr} {kk : List (Str × Kd)} {k : Kd} {C f x : Str} {e : Expr} {g : Sl → R D} {p1 p2 p3 pos : Pos}
end
end VL
end

noncomputable section
namespace VL
open PySem PySem.Spec PyProof.Rows L2
variable {md : Md}

def Kd.mutb : Kd → Bool
  | .own _ => true
  | .obj _ _ => true
  | .lls _ _ => true
  | _ => false
def pins (ks : List Kd) (as : List Addr) : List Kd := List.zipWith (fun k a => k.re (some a)) ks as
section
variable {cl : Cl} {N : Addr → Prop} {B Hs H : Hp}
theorem ORep.at1 {k : Kd} {a : Addr} {d : D} {v : V} {A : List Addr} (m : k.mutb = true) (h : ORep cl N B Hs H (k.re (some a)) d v A) : v = .ref a := by
  cases k <;> first | (cases m; done) | skip
  · cases h with
    | ownL h0 _ _ => rw [h0.2 _ rfl]
    | ownK h0 _ _ => rw [h0.2 _ rfl]
  · cases h with
    | obj h0 _ _ _ => rw [h0.2 _ rfl]
  · cases h with
    | lls h0 _ _ => rw [h0.2 _ rfl]
    | llT h0 _ _ => rw [h0.2 _ rfl]
end
/-- how a call ends: its result, what was lent -/
def PostM (cl : Cl) (k2 : List Kd) (kr : Kd) (as : List Addr) (Hs H : Hp) (Af : List Addr) (Q : VK) (E : XK) : O → Prop
  | .stuck => False
  | .nx _ => False
  | .rt d es => ∃ dm, es = dm.map some ∧ ∀ v Hs' H' A0 A2, Grow Hs (sans H Af) Hs' H' → ORep cl (fun b => sans H Af b = none) (sans H Af) Hs' H' kr d v A0 → RM cl (fun b => sans H Af b = none) (sans H Af) Hs' H' (pins k2 as) dm (as.map .ref) A2 →
      (A0 ++ A2).Nodup → (∀ b ∈ A0 ++ A2, Hs' b = none ∧ sans H Af b = none) → Q v H'
  | .exc x es => ∃ dm, es = dm.map some ∧ ∀ c dd Hs' H' A2, Grow Hs (sans H Af) Hs' H' → RM cl (fun b => sans H Af b = none) (sans H Af) Hs' H' (pins k2 as) dm (as.map .ref) A2 →
      A2.Nodup → (∀ b ∈ A2, Hs' b = none ∧ sans H Af b = none) → XRep cl Hs' H' x c dd → E c dd H'
/-- a promise with things that are lent (ahead) -/
def spM (cl : Cl) (k1 k2 : List Kd) (bs : List Bool) (kr : Kd) (f : List D → O) : Sp := fun vs H Q E => ∃ (as : List Addr) (ws : List V) (dm ds : List D) (Hs : Hp) (Af : List Addr), vs = as.map .ref ++ ws ∧ as.length = k1.length ∧ Same Hs H ∧
  RM cl (fun b => sans H Af b = none) (sans H Af) Hs H (pins k1 as) dm (as.map .ref) Af ∧ Af.Nodup ∧ (∀ b ∈ Af, Hs b = none) ∧ RAs cl Hs (sans H Af) bs ds ws ∧ PostM cl k2 kr as Hs H Af Q E (f (dm ++ ds))
section
variable {P : Program} {w : World} {K : PySem.W.Frag} {mg : Str → Option Value} {base : Heap} {cl : Cl} {x qual : Str} {st : Stmt} {fa : Addr} {fd : FuncData} {N ps : List Str} {k : Nat} {bs : List Bool} {kr : Kd} {k1 k2 ls : List Kd} {m : Sl → O}
end
end VL
end

noncomputable section
namespace VL
open PySem PySem.Spec PyProof.Rows L2
variable {md : Md}

section
variable {E : En} {Hs H Hs' H' : Hp} {ks : List Kd} {r : Sl} {σ : L2.St} {i : Nat} {k ka kb : Kd} {d da db : D} {va vb : V}
theorem StRel.swap (S : StRel E Hs H (ka :: kb :: ks) (some da :: some db :: r) (some va :: some vb :: σ)) : StRel E Hs H (kb :: ka :: ks) (some db :: some da :: r) (some vb :: some va :: σ) := by
  obtain ⟨As, S⟩ := S
  have sl := S.sl
  cases sl with
  | cons o t =>
    cases t with
    | cons o2 t2 =>
      rename_i A A2 Ar
      have p : (A2 ++ (A ++ Ar)).Perm (A ++ (A2 ++ Ar)) := by
        rw [← List.append_assoc, ← List.append_assoc]
        exact List.Perm.append_right _ List.perm_append_comm
      exact ⟨_, .cons o2 (.cons o t2), p.nodup_iff.mpr S.nd, fun a ha => S.dis a (p.mem_iff.mp ha), S.es, S.sub, S.eb, S.new, S.dom, S.tb⟩
end
theorem RAs.ofReps {cl : Cl} {Hs H : Hp} : ∀ {n : Nat} {ds : List D} {vs : List V}, RepL cl Hs ds vs → ds.length = n → RAs cl Hs H (List.replicate n true) ds vs
  | 0, [], _, r, _ => by cases r; exact .nil
  | n + 1, d :: ds, _, r, h => by
    cases r with
    | cons r1 r2 =>
      rw [List.replicate_succ]
      exact .val r1 (RAs.ofReps r2 (by simpa using h))
  | 0, _ :: _, _, _, h => by cases h
  | _ + 1, [], _, _, h => by cases h

def PostX (E : En) (ks' : List Kd) (k : Kd) (fin : List Kd → Prop) (W : WX) (σ : L2.St) (Q : VK) : O → Prop
  | .rt d r => ∀ v Hs' H', StRel E Hs' H' (k :: ks') (some d :: r) (some v :: σ) → Q v H'
  | .exc x r => ∀ Hs' H' c dd ks2, fin ks2 → StRel E Hs' H' ks2 r σ → XRep E.cl Hs' H' x c dd → W c dd σ H'
  | _ => False
/-- an expression that changes slots -/
structure SX [md : Md] (X : Cx) (E : En) (fin : List Kd → Prop) (ks : List Kd) (k : Kd) (e : Expr) (g : Sl → O) (ks' : List Kd) : Prop where
  run : ∀ (Hs H : Hp) (r : Sl) (σ : L2.St) (W : WX) (Q : VK), Takes X W → StRel E Hs H ks r σ → PostX E ks' k fin W σ Q (g r) → WEx X e σ H Q
@[simp] def onX (o : O) (k : D → Sl → O) : O := match o with
  | .rt d r => k d r
  | .exc x r => .exc x r
  | _ => .stuck
section
variable {X : Cx} {E : En} {fin : List Kd → Prop} {kr : Kd} {ks ks' : List Kd} {i : Nat} {k k0 : Kd} {x : Str} {e : Expr} {g : Sl → O} {pos pos' : Pos}
end
section
variable {X : Cx} {CX : CXT} {k : Nat} {f C : Addr} {fd : FuncData} {ps : List Str} {sp : Sp} {E : L2.St → XK} {x m : Str} {p pos apos : Pos} {e o : Expr} {es : List Expr} {ta : TE} {t : TA}
end
section
variable {X : Cx} {E : En} {fin : List Kd → Prop} {kr : Kd} {ks ks' : List Kd} {i : Nat} {n : Option Addr} {k : Nat} {k1 k2 : List (Str × Kd)} {nb : Nat} {x C m : Str} {e : Expr} {es : List Expr} {f : List D → O} {t : Sl → R (List D)} {p1 apos pos : Pos}
end
@[simp] def dMake (C : Str) (f : List D → O) (ds : List D) : R D := match f (.obj C [] :: ds) with
  | .rt .non [some d] => .ok d
  | _ => .stuck
section
variable {X : Cx} {E : En} {ks : List Kd} {k nb : Nat} {kk : List (Str × Kd)} {C : Str} {f : List D → O} {t : Sl → R (List D)} {e : Expr} {es : List Expr} {p pos : Pos}
theorem made {Hs H : Hp} {Q : VK} {W : WX0} {ds : List D} {vs : List V} {c x dx : Addr} (e : Same Hs H) (hc : E.cl.o C = some c) (fk : (Kd.obj none kk).fine = true) (a : RAs E.cl Hs H (List.replicate nb true) ds vs) (nx : H x = none) (ndx : H dx = none) (ne : dx ≠ x)
    (P : Post E.cl (.obj none kk) Hs H Q W (dMake C f ds)) : spM E.cl [.obj none []] [.obj none kk] (List.replicate nb true) .val f (.ref x :: vs) (upd (upd H dx (.own x)) x (.ins c dx [])) (fun v H2 => v = .non ∧ Q (.ref x) H2) E0 := by
  have s1 : Same H (upd H dx (.own x)) := Same.updNew ndx
  have nx' : upd H dx (.own x) x = none := by rw [upd_ne ne.symm]; exact nx
  have s2 : Same H (upd (upd H dx (.own x)) x (.ins c dx [])) := s1.trans (Same.updNew nx')
  have dz : ∀ b ∈ [x], Hs b = none := fun b hb => by
    simp at hb
    subst hb
    exact e.free nx
  have back : ∀ b, sans (upd (upd H dx (.own x)) x (.ins c dx [])) [x] b = none → H b = none := fun b z => by
    rcases sans_none z with w | w
    · simp at w
      subst w
      exact nx
    · exact s2.free w
  refine ⟨[x], vs, [.obj C []], ds, Hs, [x], rfl, rfl, e.trans s2, ?_, by simp, dz, RAs.ofReps a.reps (by simpa using a.len.2), ?_⟩
  · have o : ORep E.cl (fun b => sans (upd (upd H dx (.own x)) x (.ins c dx [])) [x] b = none) (sans (upd (upd H dx (.own x)) x (.ins c dx [])) [x]) Hs (upd (upd H dx (.own x)) x (.ins c dx [])) (.obj (some x) []) (.obj C []) (.ref x) [x] :=
      .obj ⟨sans_in (by simp), fun b z => (Option.some.inj z).symm⟩ hc upd_same .nil
    exact .cons o .nil
  · show PostM E.cl _ .val [x] Hs _ [x] _ E0 (f (.obj C [] :: ds))
    unfold dMake at P
    cases q : f (.obj C [] :: ds) with
    | stuck => rw [q] at P; exact P.elim
    | nx r' => rw [q] at P; exact P.elim
    | exc y es => rw [q] at P; exact P.elim
    | rt d es =>
      rw [q] at P
      split at P
      · rename_i d1 e1
        cases e1
        refine ⟨[d1], rfl, fun v Hs' H' A0 A2 g o0 rm nd2 di2 => ?_⟩
        have ev : v = .non := by
          cases o0 with
          | val r => cases r; rfl
        refine ⟨ev, ?_⟩
        cases rm with
        | cons o2 t2 =>
          cases t2
          rw [List.append_nil] at nd2 di2
          have nd3 := (List.nodup_append.mp nd2).2.1
          refine P (.ref x) Hs' H' ⟨g.s, ?_, fun b z => ?_, g.sub, fun R z => ?_⟩ ⟨_, ORep.renew _ _ _ _ fk (fun b hb => back b (di2 b (List.mem_append_right _ hb)).2) (o2.unpinO (fun b z => nomatch z)), nd3, fun b hb => ?_⟩
          · exact ((sans_sub (A := [x]) s2 fun b hb => by simp at hb; subst hb; exact nx)).trans g.h
          · rcases g.n b z with w | w
            · exact .inl w
            · exact .inr (back b w)
          · refine g.t R (z.ext fun b u q => ?_)
            have hb1 : b ≠ x := ne_of_none q nx
            have hb2 : b ≠ dx := ne_of_none q ndx
            rw [sans_out fun w => by simp at w; exact hb1 w, upd_ne hb1, upd_ne hb2]
            exact q
          · have z := di2 b (List.mem_append_right _ hb)
            exact ⟨z.1, back b z.2⟩
      · exact P.elim
end
end VL
end

noncomputable section
namespace VL
open PySem PySem.Spec PyProof.Rows L2
variable {md : Md}

end VL
end

noncomputable section
namespace VL
open PySem PySem.Spec PyProof.Rows L2
variable {md : Md}

section
variable {X : Cx} {E : En} {kr : Kd} {fin : List Kd → Prop} {ks ks' : List Kd} {e : Expr} {g : Sl → R D} {pos : Pos}
end
end VL
end

noncomputable section
namespace VL
open PySem PySem.Spec PyProof.Rows L2
variable {md : Md}

theorem RepK.at_ {cl : Cl} {H : Hp} (k : Key) : ∀ {ds : List (Key × D)} {xs : List (Key × V)} {d : D}, RepK cl H ds xs → valD ds k = some d → ∃ v, valV xs k = some v ∧ Rep cl H d v
  | [], _, _, h, e => by cases e
  | (k0, d0) :: _, _, _, h, e => by
    cases h with
    | cons h1 h2 =>
      by_cases c : k0 = k
      · rw [valD_pos c] at e
        cases e
        rw [valV_pos c]
        exact ⟨_, rfl, h1⟩
      · rw [valD_neg c] at e
        rw [valV_neg c]
        exact RepK.at_ k h2 e
section
variable {X : Cx} {E : En} {ks : List Kd} {a b : Expr} {ga gb : Sl → R D} {pos : Pos}
end

theorem RepL.last {cl : Cl} {H : Hp} {ds : List D} {xs : List V} {d : D} (r : RepL cl H ds xs) (h : ds.getLast? = some d) : ∃ v, xs[xs.length - 1]? = some v ∧ Rep cl H d v := by
  rw [List.getLast?_eq_getElem?] at h
  rw [r.length]
  exact r.get h
section
variable {X : Cx} {E : En} {fin : List Kd → Prop} {kr : Kd} {ks ks' : List Kd} {i : Nat} {n : Option Addr} {x : Str} {e b : Expr} {g : Sl → R D} {m : Sl → O} {p1 p2 p3 pos : Pos}
end
end VL
end

noncomputable section
namespace VL
open PySem PySem.Spec PyProof.Rows L2
variable {md : Md}

section
variable {cl : Cl} {k : Kd} {Hs H Hs' H' H0 : Hp}
theorem RK.growA {d : D} {v : V} {A : List Addr} (fk : k.fine = true) (g : Grow Hs H Hs' H') (o : ORep cl (fun a => H0 a = none) H Hs H k d v A) (z : ∀ a ∈ A, Hs a = none ∧ H0 a = none) :
    ORep cl (fun a => H0 a = none) H' Hs' H' k d v A ∧ ∀ a ∈ A, Hs' a = none ∧ H0 a = none := by
  have hr := ORep.here _ _ _ _ o
  have e : ∀ a ∈ A, H' a = H a := fun a ha => by
    obtain ⟨u, e1, e2⟩ := hr a ha
    rw [e1, g.h.at a u e1 e2]
  refine ⟨ORep.anyB _ _ _ _ fk (ORep.mono (B' := H) g.s (Same.refl _) (fun _ q => q) _ _ _ _ e o), fun a ha => ⟨?_, (z a ha).2⟩⟩
  obtain ⟨u, e1, e2⟩ := hr a ha
  cases q : Hs' a with
  | none => rfl
  | some w =>
    rcases g.n a (by rw [q]; simp) with y | y
    · exact absurd (z a ha).1 y
    · rw [e1] at y; cases y
theorem RK.grow {d : D} {v : V} (fk : k.fine = true) (g : Grow Hs H Hs' H') (h : RK cl k H0 Hs H d v) : RK cl k H0 Hs' H' d v := by
  obtain ⟨A, o, nd, z⟩ := h
  obtain ⟨o2, z2⟩ := RK.growA fk g o z
  exact ⟨A, o2, nd, z2⟩
def RLs (cl : Cl) (k : Kd) (H0 Hs H : Hp) (ds : List D) (vs : List V) : Prop := ∃ As, OLs cl (fun a => H0 a = none) H Hs H k ds vs As ∧ As.Nodup ∧ ∀ a ∈ As, Hs a = none ∧ H0 a = none
theorem OLs.anyB {N : Addr → Prop} {B B' : Hp} (fk : k.fine = true) {ds : List D} {xs : List V} {As : List Addr} (h : OLs cl N B Hs H k ds xs As) : OLs cl N B' Hs H k ds xs As :=
  OLs.imp (fun _ => True) (fun _ _ _ => trivial) (fun _ _ _ => trivial) (fun d v A _ o => ORep.anyB k d v A fk o) trivial h
theorem OLs.keep {N : Addr → Prop} {B : Hp} {ds : List D} {xs : List V} {As : List Addr} (s : Same Hs Hs') (e : ∀ a ∈ As, H' a = H a) (h : OLs cl N B Hs H k ds xs As) : OLs cl N B Hs' H' k ds xs As :=
  OLs.imp (fun A => ∀ a ∈ A, H' a = H a) (fun _ _ t a ha => t a (List.mem_append_left _ ha)) (fun _ _ t a ha => t a (List.mem_append_right _ ha)) (fun d v A t o => ORep.mono s (Same.refl _) (fun _ q => q) k d v A t o) e h
theorem OLs.here {N : Addr → Prop} {B : Hp} {ds : List D} {xs : List V} {As : List Addr} (h : OLs cl N B Hs H k ds xs As) : ∀ a ∈ As, ∃ o, H a = some o ∧ NT o := OLs.all (fun d v A o => ORep.here k d v A o) h
theorem OLs.pos : ∀ {N : Addr → Prop} {B : Hp} {ds : List D} {xs : List V} {As : List Addr} (j : Nat) {d : D}, OLs cl N B Hs H k ds xs As → ds[j]? = some d →
    ∃ pre A post v, As = pre ++ (A ++ post) ∧ xs[j]? = some v ∧ ORep cl N B Hs H k d v A ∧
      ∀ Hs' H', Same Hs Hs' → (∀ a ∈ pre ++ post, H' a = H a) → ∀ d' v' A', ORep cl N B Hs' H' k d' v' A' → OLs cl N B Hs' H' k (ds.set j d') (xs.set j v') (pre ++ (A' ++ post))
  | _, _, _, _, _, j, _, .nil, e => by simp at e
  | _, _, _, _, _, 0, _, .cons (A := A) (As := As) o t, e => by
    simp at e
    subst e
    exact ⟨[], A, As, _, rfl, rfl, o, fun Hs' H' s q d' v' A' o' => .cons (A := A') (As := As) o' (OLs.keep s (fun a ha => q a ha) t)⟩
  | _, _, _, _, _, j + 1, _, .cons (A := A0) o t, e => by
    obtain ⟨pre, A, post, v, e1, e2, e3, e4⟩ := OLs.pos j t (by simpa using e)
    refine ⟨A0 ++ pre, A, post, v, by rw [e1, List.append_assoc], by simpa using e2, e3, fun Hs' H' s q d' v' A' o' => ?_⟩
    rw [List.append_assoc]
    exact .cons (ORep.mono s (Same.refl _) (fun _ z => z) _ _ _ _ (fun a ha => q a (List.mem_append_left _ (List.mem_append_left _ ha))) o)
      (e4 Hs' H' s (fun a ha => q a (by
        rcases List.mem_append.mp ha with z | z
        · exact List.mem_append_left _ (List.mem_append_right _ z)
        · exact List.mem_append_right _ z)) d' v' A' o')
theorem RLs.grow {ds : List D} {vs : List V} (fk : k.fine = true) (g : Grow Hs H Hs' H') (h : RLs cl k H0 Hs H ds vs) : RLs cl k H0 Hs' H' ds vs := by
  obtain ⟨A, o, nd, z⟩ := h
  have hr := o.here
  have e : ∀ a ∈ A, H' a = H a := fun a ha => by
    obtain ⟨u, e1, e2⟩ := hr a ha
    rw [e1, g.h.at a u e1 e2]
  refine ⟨A, (OLs.keep g.s e o).anyB fk, nd, fun a ha => ⟨?_, (z a ha).2⟩⟩
  obtain ⟨u, e1, e2⟩ := hr a ha
  cases q : Hs' a with
  | none => rfl
  | some w =>
    rcases g.n a (by rw [q]; simp) with y | y
    · exact absurd (z a ha).1 y
    · rw [e1] at y; cases y
end
section
variable {X : Cx} {E : En} {ks : List Kd} {k : Kd} {e : Expr} {es : List Expr} {g : Sl → R D} {t : Sl → R (List D)} {pos : Pos}
end

section
variable {X : Cx} {E : En} {Hs H : Hp} {ks : List Kd} {r : Sl} {σ : L2.St} {i : Nat} {k : Kd}
end
section
variable {X : Cx} {E : En} {kr : Kd} {fin : List Kd → Prop} {ks : List Kd} {i j : Nat} {n m : Option Addr} {x y : Str} {e : Expr} {g : Sl → R D} {pos p1 p2 p3 p4 p5 p6 : Pos}
end
end VL
end

noncomputable section
namespace VL
open PySem PySem.Spec PyProof.Rows L2
variable {md : Md}

def leD : D → D → Bool := PySem.W.dataLe false toPy
def tup1 : D → Bool
  | .tup (_ :: _) => true
  | _ => false
def flat1 : D → Bool
  | .lst _ => true
  | .int _ => true
  | .str _ => true
  | _ => false
def okSort (ds : List D) : Bool := ds.all (fun a => shp a && decide ((toPy a).depth ≤ 60) && ds.all fun b => PySem.W.alike (toPy a) (toPy b)) && (ds.all tup1 || ds.all flat1)
def dSortD : D → R D
  | .lst ds => if okSort ds then .ok (.lst (ds.mergeSort leD)) else .stuck
  | _ => .stuck
def rSortD (K : PySem.W.Frag) : List V → Hp → VK → Prop := fun vs H Q => ∃ (a : Addr) (bs : List (V × D)), vs = [V.ref a] ∧ SqL K H a (bs.map (·.1)) ∧ (∀ b ∈ bs, Dp K H b.1 (toPy b.2) ∧ (toPy b.2).depth ≤ 60) ∧
  PySem.W.AllAlike (bs.map fun b => toPy b.2) ∧ PySem.W.Sortable (bs.map fun b => toPy b.2) ∧ ∀ p, H p = none → Q (.ref p) (upd H p (.lst ((bs.mergeSort (PySem.W.dataLe false fun b => toPy b.2)).map (·.1))))
section
variable {X : Cx}
theorem each_vals {pins : List (Addr × Obj)} {σ : L2.St} {H : Hp} {s : Shared} (I : Inv X pins σ H s) : ∀ {bs : List (V × D)} {its : List Value}, Vals (bs.map (·.1)) its → (∀ b ∈ bs, Dp X.K H b.1 (toPy b.2)) →
    PySem.W.EachIs (fun v (b : V × D) => RelV b.1 v) its bs ∧ PySem.W.EachIs (fun v (b : V × D) => ∃ as, Reads s.heap v (toPy b.2) as) its bs
  | [], _, .nil, _ => ⟨.nil, .nil⟩
  | b :: bs, _, .cons r t, h => by
    obtain ⟨i1, i2⟩ := each_vals I t fun c hc => h c (List.mem_cons_of_mem _ hc)
    exact ⟨.cons r i1, .cons (Dp.reads I _ _ _ (h b List.mem_cons_self) r) i2⟩
theorem each_back : ∀ {bs : List (V × D)} {out : List Value}, PySem.W.EachIs (fun v (b : V × D) => RelV b.1 v) out bs → Vals (bs.map (·.1)) out
  | _, _, .nil => .nil
  | _, _, .cons r t => .cons r (each_back t)
theorem cr_sortedD (hu : X.A.units + 65 < cLine) : CallR X (.builtin "sorted") (rSortD X.K) := by
  intro pins s σ H vs us Q I r h
  obtain ⟨a, bs, rfl, hs, hd, al, so, q⟩ := h
  obtain ⟨its, rv, hl, hz⟩ := I.list hs
  rw [Vals.ref1 r]
  obtain ⟨e1, e2⟩ := each_vals I rv fun b hb => (hd b hb).1
  refine PySem.W.sorted_data (bs := bs) (enc := fun b => toPy b.2) hl.isList e1 e2 al so (by rw [List.length_map] at hz; exact hz) (fun b hb => by have := (hd b hb).2; omega) fun out hlen hout => ?_
  obtain ⟨ep, he'⟩ := PyProof.Rows.sortedAll_at s.heap its out.toArray
  have hv := each_back hout
  have hz2 : ((bs.mergeSort (PySem.W.dataLe false fun b => toPy b.2)).map (·.1)).length ≤ sizeLine := by
    rw [List.length_map, List.length_mergeSort]
    rw [List.length_map] at hz
    exact hz
  exact ⟨.ref _, upd H (s.heap.objs.size + 1) (.lst ((bs.mergeSort (PySem.W.dataLe false fun b => toPy b.2)).map (·.1))), I.laid (t' := s.toks) (fun _ _ => PyProof.Rows.sortedAll_old) (Nat.le_succ _) ⟨hz2, out, ep, hv, he'⟩, rfl, q _ (I.hok.fresh (Nat.le_succ _))⟩
theorem RepL.zipV {cl : Cl} {H : Hp} : ∀ {ds : List D} {xs : List V}, RepL cl H ds xs → ∃ bs : List (V × D), bs.map (·.1) = xs ∧ bs.map (·.2) = ds ∧ ∀ b ∈ bs, Rep cl H b.2 b.1
  | [], _, h => by cases h; exact ⟨[], rfl, rfl, fun b hb => nomatch hb⟩
  | d :: ds, _, h => by
    cases h with
    | cons h1 h2 =>
      obtain ⟨bs, e1, e2, e3⟩ := RepL.zipV h2
      refine ⟨(_, d) :: bs, by rw [List.map_cons, e1], by rw [List.map_cons, e2], fun b hb => ?_⟩
      rcases List.mem_cons.mp hb with z | z
      · rw [z]; exact h1
      · exact e3 b z
theorem RepL.ofZip {cl : Cl} {H : Hp} : ∀ {bs : List (V × D)}, (∀ b ∈ bs, Rep cl H b.2 b.1) → RepL cl H (bs.map (·.2)) (bs.map (·.1))
  | [], _ => .nil
  | b :: bs, h => .cons (h b List.mem_cons_self) (RepL.ofZip fun c hc => h c (List.mem_cons_of_mem _ hc))
theorem se_sortedD {E : En} {ks : List Kd} {e : Expr} {g : Sl → R D} {p1 pos : Pos} (B : Bl X.mg) (hu : X.A.units + 65 < cLine) (he : SE X E ks .bor e g) (hg : Gl X "sorted" := by rfl)
    (hs : starEach [e] X.env = (false, eval e X.env) :: starEach [] X.env := by rfl) (hpl : (backTo pos (starEach [] X.env)).any (·.1) = false := by rfl) :
    SE X E ks (.own none) (.Call (.Name "sorted" p1) [e] [] pos) (gUn dSortD g) := by
  refine ⟨fun Hs H r σ W Q tk S P => ?_⟩
  refine we_of (pe_callB (cr_sortedD hu) hg B.sorted bb_sorted (pa_cons pe_we pa_nil hs) (by decide) (by decide) hs hpl) ?_
  refine he.run _ _ _ _ _ _ tk S (P.imp fun d v Hs1 H1 e1 g1 k1 P1 => ?_)
  unfold dSortD at P1
  cases d <;> first | exact P1.elim | skip
  rename_i ds
  dsimp only at P1
  split at P1
  · rename_i hk
    unfold okSort at hk
    rw [Bool.and_eq_true, List.all_eq_true] at hk
    obtain ⟨hk1, hk2⟩ := hk
    obtain ⟨a, xs, rfl, h1, r1⟩ := k1.rb.lstInv g1.sub
    obtain ⟨bs, b1, b2, b3⟩ := RepL.zipV r1
    subst b1
    subst b2
    have hb : ∀ b ∈ bs, shp b.2 = true ∧ (toPy b.2).depth ≤ 60 ∧ ∀ c ∈ bs, PySem.W.alike (toPy b.2) (toPy c.2) = true := fun b hb => by
      have := hk1 b.2 (List.mem_map.mpr ⟨b, hb, rfl⟩)
      simp only [Bool.and_eq_true, decide_eq_true_eq, List.all_eq_true] at this
      exact ⟨this.1.1, this.1.2, fun c hc => this.2 c.2 (List.mem_map.mpr ⟨c, hc, rfl⟩)⟩
    refine ⟨a, bs, rfl, SqL.of h1, fun b hb' => ⟨?_, (hb b hb').2.1⟩, ?_, ?_, fun p hp => ?_⟩
    · exact Rep.dp _ _ (SeqAt.canLay_of_shaped (hb b hb').1) (Rep.same g1.sub _ _ (b3 b hb'))
    · intro d hd d' hd'
      obtain ⟨b, h2, rfl⟩ := List.mem_map.mp hd
      obtain ⟨c, h3, rfl⟩ := List.mem_map.mp hd'
      exact (hb b h2).2.2 c h3
    · rw [Bool.or_eq_true, List.all_eq_true, List.all_eq_true] at hk2
      rcases hk2 with z | z
      · refine .inl fun d hd => ?_
        obtain ⟨b, h2, rfl⟩ := List.mem_map.mp hd
        have := z b.2 (List.mem_map.mpr ⟨b, h2, rfl⟩)
        cases q : b.2 <;> rw [q] at this <;> first | (cases this; done) | skip
        rename_i ys
        cases ys with
        | nil => cases this
        | cons y ys => exact ⟨_, _, rfl⟩
      · refine .inr fun d hd => ?_
        obtain ⟨b, h2, rfl⟩ := List.mem_map.mp hd
        have := z b.2 (List.mem_map.mpr ⟨b, h2, rfl⟩)
        cases q : b.2 <;> rw [q] at this <;> first | (cases this; done) | exact ⟨(by intro w; cases w), (by intro w u; cases u)⟩
    · have e2 : (bs.mergeSort (PySem.W.dataLe false fun b => toPy b.2)).map (·.2) = (bs.map (·.2)).mergeSort leD := List.map_mergeSort fun a _ b _ => rfl
      rw [← e2] at P1
      refine P1.finL g1.sub hp (RepL.ofZip fun b hb' => b3 b ?_)
      exact (List.mergeSort_perm bs _).mem_iff.mp hb'
  · exact P1.elim
end
end VL
end

noncomputable section
namespace VL
open PySem PySem.Spec PyProof.Rows L2
variable {md : Md}

section
variable {X : Cx} {E : En} {ks : List Kd} {e o : Expr} {g go : Sl → R D} {pos p apos cpos : Pos} {es : List Expr} {t : Sl → R (List D)}
end
section
variable {X : Cx} {E : En} {ks : List Kd} {e o : Expr} {g go : Sl → R D} {pos p apos cpos : Pos} {es : List Expr} {t : Sl → R (List D)}
end
end VL
end

noncomputable section
namespace VL
open PySem PySem.Spec PyProof.Rows L2
variable {md : Md}

open Classical in
def sw (a : Addr) (u o : HO) (f : Hp) : Hp := fun b => if b = a ∧ f b = some u then some o else f b
section
variable {a : Addr} {u o : HO} {f g : Hp}
theorem sw_at (h : f a = some u) : sw a u o f a = some o := by unfold sw; rw [if_pos ⟨rfl, h⟩]
theorem sw_ne {b : Addr} (h : b ≠ a) : sw a u o f b = f b := by unfold sw; rw [if_neg fun z => h z.1]
theorem sw_no {b : Addr} (h : f b ≠ some u) : sw a u o f b = f b := by unfold sw; rw [if_neg fun z => h z.2]
theorem sw_none {b : Addr} : sw a u o f b = none ↔ f b = none := by
  unfold sw
  split
  · rename_i z
    rw [z.2]
    exact ⟨fun w => (nomatch w), fun w => (nomatch w)⟩
  · exact Iff.rfl
theorem sw_keep {b : Addr} {y : HO} (h : f b = some y) (n : y ≠ u) : sw a u o f b = some y := by
  rw [sw_no fun z => n (by rw [h] at z; exact Option.some.inj z)]
  exact h
theorem Same.sw (nt : NT u) (e : Same f g) : Same (sw a u o f) (sw a u o g) := ⟨fun b y q n => by
  by_cases c : b = a ∧ f b = some u
  · obtain ⟨rfl, c⟩ := c
    rw [sw_at c] at q
    rw [sw_at (e.at _ _ c nt)]
    exact q
  · have q2 : f b = some y := by
      unfold VL.sw at q
      rw [if_neg c] at q
      exact q
    have g2 : g b = some y := e.k b y q2 (n.imp id fun z => sw_none.mp z)
    by_cases d : b = a
    · subst d
      exact sw_keep g2 fun z => c ⟨rfl, by rw [q2, z]⟩
    · rw [sw_ne d]; exact g2⟩
theorem tab_sw {P : Addr} (nt : NT u) (nc : ∀ c q, u ≠ LamX.CodeO c q) (z : LamX.TabS f P lamQ) : LamX.TabS (VL.sw a u o f) P lamQ := by
  obtain ⟨ps, h1, h2, h3⟩ := z
  refine ⟨ps, sw_keep h1 fun w => nt ps w.symm, h2, fun pos cv hc => ?_⟩
  obtain ⟨c, e1, e2⟩ := h3 pos cv hc
  exact ⟨c, e1, sw_keep e2 fun w => nc c lamQ w.symm⟩
end
/-- open, locked -/
inductive Two (xs : List (Key × V)) : HO → HO → Prop
  | lock {od : Obj} : Two xs (.dK xs) (.frz od (.dK xs))
  | open_ {od : Obj} : Two xs (.frz od (.dK xs)) (.dK xs)
section
variable {a : Addr} {u o : HO} {xs : List (Key × V)} {cl : Cl} {H Hs B : Hp}
theorem Two.ntU (t : Two xs u o) : NT u := by cases t <;> (intro _ z; cases z)
theorem Two.nc (t : Two xs u o) : ∀ c q, u ≠ LamX.CodeO c q := by
  cases t <;> (intro _ _ z; unfold LamX.CodeO at z; cases z)
theorem Two.ne (t : Two xs u o) : u ≠ o := by cases t <;> (intro z; cases z)
theorem Two.lst (t : Two xs u o) (ys : List V) : HO.lst ys ≠ u := by cases t <;> (intro z; cases z)
theorem Two.tup (t : Two xs u o) (ys : List V) : HO.tup ys ≠ u := by cases t <;> (intro z; cases z)
theorem Two.ins (t : Two xs u o) (c dx : Addr) (ys : List (Str × V)) : HO.ins c dx ys ≠ u := by cases t <;> (intro z; cases z)
theorem Two.xd (t : Two xs u o) (ys : List (Str × V)) : HO.xd ys ≠ u := by cases t <;> (intro z; cases z)
theorem Two.rd (t : Two xs u o) {p : Addr} {ys : List (Key × V)} (h : Rd H p (.dK ys)) : Rd (sw a u o H) p (.dK ys) := by
  by_cases c : p = a ∧ H p = some u
  · obtain ⟨rfl, c⟩ := c
    have e := sw_at (o := o) c
    cases t with
    | lock =>
      rename_i od
      rcases h with h | ⟨o2, h⟩
      · rw [c] at h; cases h; exact .inr ⟨od, e⟩
      · rw [c] at h; cases h
    | open_ =>
      rcases h with h | ⟨o2, h⟩
      · rw [c] at h; cases h
      · rw [c] at h; cases h; exact .inl e
  · have e : sw a u o H p = H p := by unfold sw; rw [if_neg c]
    unfold Rd
    rw [e]
    exact h
theorem Two.seq (t : Two xs u o) {K : PySem.W.Frag} {p : Addr} {ys : List V} (h : SqL K H p ys) : SqL K (sw a u o H) p ys := by
  rcases h with (h | ⟨o2, h⟩) | h
  · exact .inl (.inl (sw_keep h (t.lst _)))
  · exact .inl (.inr ⟨o2, sw_keep h (by cases t <;> (intro z; cases z))⟩)
  · exact .inr h
mutual
theorem Rep.sw (t : Two xs u o) : ∀ (d : D) (v : V), Rep cl H d v → Rep cl (sw a u o H) d v
  | .non, _, h => by cases h; exact .non
  | .bl b, _, h => by cases h; exact .bl b
  | .int i, _, h => by cases h; exact .int i
  | .str x, _, h => by cases h; exact .str x
  | .lst ds, _, h => by
    cases h with
    | lst h1 h2 => exact .lst (sw_keep h1 (t.lst _)) (RepL.sw t ds _ h2)
  | .tup ds, _, h => by
    cases h with
    | tup h1 h2 => exact .tup (sw_keep h1 (t.tup _)) (RepL.sw t ds _ h2)
  | .dct ds, _, h => by
    cases h with
    | dct h1 h2 => exact .dct (t.rd h1) (RepK.sw t ds _ h2)
  | .obj C ds, _, h => by
    cases h with
    | obj h0 h1 h2 => exact .obj h0 (sw_keep h1 (t.ins _ _ _)) (RepF.sw t ds _ h2)
  | .scr ns, _, h => by
    cases h with
    | scr h1 => exact .scr (t.seq h1)
theorem RepL.sw (t : Two xs u o) : ∀ (ds : List D) (vs : List V), RepL cl H ds vs → RepL cl (sw a u o H) ds vs
  | [], _, h => by cases h; exact .nil
  | d :: ds, _, h => by
    cases h with
    | cons h1 h2 => exact .cons (Rep.sw t d _ h1) (RepL.sw t ds _ h2)
theorem RepK.sw (t : Two xs u o) : ∀ (ds : List (Key × D)) (vs : List (Key × V)), RepK cl H ds vs → RepK cl (sw a u o H) ds vs
  | [], _, h => by cases h; exact .nil
  | (k, d) :: ds, _, h => by
    cases h with
    | cons h1 h2 => exact .cons (Rep.sw t d _ h1) (RepK.sw t ds _ h2)
theorem RepF.sw (t : Two xs u o) : ∀ (ds : List (Str × D)) (vs : List (Str × V)), RepF cl H ds vs → RepF cl (sw a u o H) ds vs
  | [], _, h => by cases h; exact .nil
  | (k, d) :: ds, _, h => by
    cases h with
    | cons h1 h2 => exact .cons (Rep.sw t d _ h1) (RepF.sw t ds _ h2)
end
mutual
theorem RB.sw (t : Two xs u o) : ∀ {d : D} {v : V}, RB cl Hs B d v → RB cl (sw a u o Hs) (sw a u o B) d v
  | _, _, .val r => .val (Rep.sw t _ _ r)
  | _, _, .lst h1 h2 => .lst (sw_keep h1 (t.lst _)) (RepL.sw t _ _ h2)
  | _, _, .dct h1 h2 => .dct (t.rd h1) (RepK.sw t _ _ h2)
  | _, _, .obj h0 h1 h2 => .obj h0 (sw_keep h1 (t.ins _ _ _)) (RBF.sw t h2)
theorem RBF.sw (t : Two xs u o) : ∀ {ds : List (Str × D)} {vs : List (Str × V)}, RBF cl Hs B ds vs → RBF cl (sw a u o Hs) (sw a u o B) ds vs
  | _, _, .nil => .nil
  | _, _, .cons x y => .cons (RB.sw t x) (RBF.sw t y)
end
variable {N : Addr → Prop}
mutual
theorem ORep.sw (t : Two xs u o) : ∀ (k : Kd) (d : D) (v : V) (A : List Addr), (∀ b ∈ A, b ≠ a) → ORep cl N B Hs H k d v A → ORep cl N (sw a u o B) (sw a u o Hs) (sw a u o H) k d v A
  | .val, d, v, _, _, h => by
    cases h with
    | val h1 => exact .val (Rep.sw t _ _ h1)
  | .bor, d, v, _, _, h => by
    cases h with
    | borV h1 => exact .borV (Rep.sw t _ _ h1)
    | borL h1 h2 => exact .borL (sw_keep h1 (t.lst _)) (RepL.sw t _ _ h2)
    | borK h1 h2 => exact .borK (t.rd h1) (RepK.sw t _ _ h2)
    | borO h0 h1 h2 => exact .borO h0 (sw_keep h1 (t.ins _ _ _)) (RBF.sw t h2)
  | .own n, d, v, _, k, h => by
    cases h with
    | ownL h0 h1 h2 => exact .ownL h0 (sw_keep h1 (t.lst _)) (RepL.sw t _ _ h2)
    | ownK h0 h1 h2 => exact .ownK h0 (by rw [sw_ne (k _ List.mem_cons_self)]; exact h1) (RepK.sw t _ _ h2)
    | ownV h0 h1 => exact .ownV h0 (Rep.sw t _ _ h1)
  | .obj n ks, d, v, _, k, h => by
    cases h with
    | obj h0 h1 h2 h3 => exact .obj h0 h1 (sw_keep h2 (t.ins _ _ _)) (OFs.sw t ks _ _ _ (fun b hb => k b (List.mem_cons_of_mem _ hb)) h3)
  | .adr p, d, v, _, _, h => by
    cases h with
    | adr => exact .adr
  | .lls n kd, d, v, _, k, h => by
    cases h with
    | lls h0 h1 h2 => exact .lls h0 (sw_keep h1 (t.lst _)) (OLs.imp (fun A => ∀ b ∈ A, b ≠ a) (fun _ _ t b hb => t b (List.mem_append_left _ hb)) (fun _ _ t b hb => t b (List.mem_append_right _ hb)) (fun d v A q r => ORep.sw t kd d v A q r) (fun b hb => k b (List.mem_cons_of_mem _ hb)) h2)
    | llT h0 h1 h2 => exact .llT h0 (sw_keep h1 (t.tup _)) (OLs.imp (fun A => ∀ b ∈ A, b ≠ a) (fun _ _ t b hb => t b (List.mem_append_left _ hb)) (fun _ _ t b hb => t b (List.mem_append_right _ hb)) (fun d v A q r => ORep.sw t kd d v A q r) (fun b hb => k b (List.mem_cons_of_mem _ hb)) h2)
    | llV h0 h1 => exact .llV h0 (Rep.sw t _ _ h1)
theorem OFs.sw (t : Two xs u o) : ∀ (ks : List (Str × Kd)) (ds : List (Str × D)) (vs : List (Str × V)) (A : List Addr), (∀ b ∈ A, b ≠ a) → OFs cl N B Hs H ks ds vs A → OFs cl N (sw a u o B) (sw a u o Hs) (sw a u o H) ks ds vs A
  | [], _, _, _, _, h => by cases h; exact .nil
  | (f, kd) :: ks, _, _, _, k, h => by
    cases h with
    | cons h1 h2 => exact .cons (ORep.sw t kd _ _ _ (fun b hb => k b (List.mem_append_left _ hb)) h1) (OFs.sw t ks _ _ _ (fun b hb => k b (List.mem_append_right _ hb)) h2)
end
end
/-- the entry, a dict's object exchanged -/
def En.sw (E : En) (a : Addr) (u o : HO) : En := ⟨E.cl, E.h, VL.sw a u o E.s, VL.sw a u o E.b⟩
section
variable {E : En} {Hs H : Hp} {ks : List Kd} {r : Sl} {σ : L2.St} {a : Addr} {u o : HO} {xs : List (Key × V)}
theorem Slots.sw (t : Two xs u o) : ∀ {ks : List Kd} {r : Sl} {σ : L2.St} {As : List Addr}, (∀ b ∈ As, b ≠ a) → Slots E Hs H ks r σ As → Slots (E.sw a u o) (VL.sw a u o Hs) (VL.sw a u o H) ks r σ As
  | _, _, _, _, _, .nil => .nil
  | _, _, _, _, k, .skip h => .skip (Slots.sw t k h)
  | _, _, _, _, k, .cons h1 h2 => .cons (ORep.sw t _ _ _ _ (fun b hb => k b (List.mem_append_left _ hb)) h1) (Slots.sw t (fun b hb => k b (List.mem_append_right _ hb)) h2)
theorem StRel.sw (t : Two xs u o) (ha : Hs a ≠ none) (S : StRel E Hs H ks r σ) : StRel (E.sw a u o) (VL.sw a u o Hs) (VL.sw a u o H) ks r σ := by
  obtain ⟨As, S⟩ := S
  have off : ∀ b ∈ As, b ≠ a := fun b hb z => ha (by rw [← z]; exact (S.dis b hb).1)
  exact ⟨As, Slots.sw t off S.sl, S.nd, fun b hb => ⟨sw_none.mpr (S.dis b hb).1, (sw_none (a := a) (u := u) (o := o) (f := E.b)).mpr (S.dis b hb).2⟩, S.es.sw t.ntU, S.sub.sw t.ntU, S.eb.sw t.ntU,
    fun b z => (S.new b (fun w => z (sw_none.mpr w))).imp (fun w q => w ((sw_none (a := a) (u := u) (o := o) (f := E.s)).mp q)) id, fun b z => S.dom b (sw_none.mp z), fun P z => tab_sw t.ntU t.nc (S.tb P z)⟩
end

section
variable {X : Cx} {E : En} {kr : Kd} {ks : List Kd} {pos p1 : Pos} {i : Nat} {x : Str}
end
end VL
end

noncomputable section
namespace VL
open PySem PySem.Spec PyProof.Rows L2
variable {md : Md}

section
variable {prog : Program} {w : World} {A : Around} {E : Value → Shared → Prop} {s : Shared}
end
section
variable {X : Cx} {E : En} {ks : List Kd} {a b : Expr} {ga gb : Sl → R D} {p p2 q pos : Pos}
end
end VL
end

noncomputable section
namespace VL
open PySem PySem.Spec PyProof.Rows L2
variable {md : Md}

theorem OLs.app {cl : Cl} {N : Addr → Prop} {B Hs H : Hp} {k : Kd} : ∀ {ds : List D} {xs : List V} {As : List Addr} {es : List D} {ys : List V} {Bs : List Addr}, OLs cl N B Hs H k ds xs As → OLs cl N B Hs H k es ys Bs → OLs cl N B Hs H k (ds ++ es) (xs ++ ys) (As ++ Bs)
  | _, _, _, _, _, _, .nil, h => h
  | _, _, _, _, _, _, .cons o t, h => by
    rw [List.append_assoc]
    exact .cons o (OLs.app t h)
section
variable {E : En} {Hs H : Hp} {ks : List Kd} {r : Sl} {σ : L2.St} {n m : Option Addr} {k : Kd} {ds es : List D} {v w : V}
end
section
variable {X : Cx} {E : En} {kr : Kd} {fin : List Kd → Prop} {ks ks' : List Kd} {i : Nat} {k : Kd} {x : Str} {e : Expr} {g : Sl → R D} {pos p1 p2 p3 : Pos}
end
section
variable {X : Cx} {E : En} {kr : Kd} {fin : List Kd → Prop} {ks : List Kd} {i j : Nat} {n m : Option Addr} {x y : Str} {e : Expr} {g : Sl → R D} {pos p1 p2 p3 p4 p5 p6 p7 p8 p9 p10 : Pos}
end

section
variable {X : Cx} {E : En} {ks : List Kd} {i j : Nat} {n m : Option Addr} {x y : Str} {scope : Scope} {pos p1 p2 p3 p4 p5 : Pos}
end

end VL
end

noncomputable section
namespace VL
open PySem PySem.Spec PyProof.Rows L2
variable {md : Md}

section
variable {X : Cx} {E : En} {ks : List Kd} {e : Expr} {g : Sl → R D} {C f : Str} {pos : Pos}
end
section
variable {X : Cx} {E : En} {ks : List Kd} {o e : Expr} {es : List Expr} {go : Sl → R D} {t : Sl → R (List D)} {C m : Str} {k : Nat} {b0 : Bool} {bs : List Bool} {kr : Kd} {f : List D → R D} {apos pos : Pos}
theorem RK.kd {cl : Cl} {H0 Hs H : Hp} {d : D} {v : V} {b0 : Bool} (h : RK cl (kdOf b0) H0 Hs H d v) : RB cl Hs H d v := by
  cases b0 with
  | true => exact .val (RK.rep h)
  | false => exact RK.rb h
theorem RAs.kd {cl : Cl} {Hs H H0 Hs' H' : Hp} {d : D} {v : V} {b0 : Bool} {bs : List Bool} {ds : List D} {vs : List V} (h : RK cl (kdOf b0) H0 Hs H d v) (g : Grow Hs H Hs' H') (a : RAs cl Hs' H' bs ds vs) : RAs cl Hs' H' (b0 :: bs) (d :: ds) (v :: vs) := by
  cases b0 with
  | true => exact .val (Rep.same g.s _ _ (RK.rep h)) a
  | false => exact .bor ((RK.rb h).grow g) a
end
theorem RepK.keys {cl : Cl} {H : Hp} : ∀ {ds : List (Key × D)} {xs : List (Key × V)}, RepK cl H ds xs → RepL cl H (ds.map fun p => keyD p.1) (xs.map fun kv => kV kv.1)
  | [], _, h => by cases h; exact .nil
  | (k, d) :: ds, _, h => by
    cases h with
    | cons h1 h2 => exact .cons (keyRep k) (RepK.keys h2)
section
variable {X : Cx} {E : En} {ks : List Kd} {e o : Expr} {es : List Expr} {t : Sl → R (List D)} {p pos : Pos}
end

section
variable {E : En} {Hs H : Hp} {ks : List Kd} {r : Sl} {σ : L2.St} {i j : Nat} {n : Option Addr} {kk : List (Str × Kd)} {f C : Str} {ds : List (Str × D)}
end
def delD (ds : List (Key × D)) (k : Key) : List (Key × D) := ds.filter fun kv => decide (kv.1 ≠ k)
theorem RepK.del {cl : Cl} {H : Hp} (k : Key) : ∀ {ds : List (Key × D)} {xs : List (Key × V)}, RepK cl H ds xs → RepK cl H (delD ds k) (dropK xs k)
  | [], _, h => by cases h; exact .nil
  | (k0, d) :: ds, _, h => by
    cases h with
    | cons h1 h2 =>
      by_cases c : k0 = k
      · simpa [delD, dropK, List.filter_cons, c] using RepK.del k h2
      · have z := RepK.cons (k := k0) h1 (RepK.del k h2)
        simpa [delD, dropK, List.filter_cons, c] using z
section
variable {X : Cx} {E : En} {fin : List Kd → Prop} {kr : Kd} {ks ks' : List Kd} {i j : Nat} {n m0 : Option Addr} {kk : List (Str × Kd)} {C f x : Str} {e e2 : Expr} {g g2 : Sl → R D} {p0 p1 p2 p3 pos : Pos} {sts : List Stmt} {m : Sl → O}
end
end VL
end

noncomputable section
namespace VL
open PySem PySem.Spec PyProof.Rows L2
variable {md : Md}

section
variable {X : Cx} {E : En} {ks : List Kd} {e f o : Expr} {g gf go : Sl → R D} {pos apos cpos : Pos}
end
section
variable {X : Cx} {E : En} {fin : List Kd → Prop} {kr : Kd} {ks : List Kd} {i : Nat} {n : Option Addr} {x : Str} {e : Expr} {g : Sl → R D} {p1 p2 p3 pos : Pos}
end
end VL
end

noncomputable section
namespace VL
open PySem PySem.Spec PyProof.Rows L2
variable {md : Md}

section
variable {E : En} {Hs H Hs' H' : Hp} {ks : List Kd} {r : Sl} {σ : L2.St}
end
def Kd.nm : Kd → Option Addr
  | .own n => n
  | .obj n _ => n
  | .lls n _ => n
  | _ => none
section
variable {cl : Cl} {N : Addr → Prop} {B Hs H : Hp}
end
section
variable {X : Cx} {E : En} {ks : List Kd} {is : List Nat} {fr : Bool} {bs : List Bool} {es : List Expr} {t : Sl → R (List D)} {i : Nat} {x : Str} {p pos : Pos}
end
section
variable {X : Cx} {E : En} {fin : List Kd → Prop} {kr : Kd} {ks ks' : List Kd} {is : List Nat} {kf : List Kd} {k n : Nat} {bs0 : Bool} {k1 k2 : List Kd} {bs : List Bool} {x : Str} {e : Expr} {es : List Expr} {f : List D → O} {t : Sl → R (List D)} {p pos : Pos}
end
end VL
end

noncomputable section
namespace VL
open PySem PySem.Spec PyProof.Rows L2
variable {md : Md}

section
variable {X : Cx} {E : En} {fin : List Kd → Prop} {kr : Kd} {ks ks' : List Kd} {i : Nat} {n : Option Addr} {x : Str} {p1 p2 p3 pos : Pos}
end

section
variable {X : Cx} {E : En} {fin : List Kd → Prop} {kr : Kd} {ks ks' : List Kd} {k : Nat} {b0 : Bool} {bs : List Bool} {x : Str} {e : Expr} {es : List Expr} {f : List D → R D} {g : Sl → O} {t : Sl → R (List D)} {p pos : Pos}
end

def PostTX (E : En) (ks' : List Kd) (fin : List Kd → Prop) (W : WX) (σ : L2.St) (Q : Bool → Hp → Prop) : O → Prop
  | .rt (.bl b) r => ∀ Hs' H', StRel E Hs' H' ks' r σ → Q b H'
  | .exc x r => ∀ Hs' H' c dd ks2, fin ks2 → StRel E Hs' H' ks2 r σ → XRep E.cl Hs' H' x c dd → W c dd σ H'
  | _ => False
@[simp] def onB (o : O) (k : Bool → Sl → O) : O := match o with
  | .rt (.bl b) r => k b r
  | .exc x r => .exc x r
  | _ => .stuck
theorem PostTX.on {E : En} {ks' : List Kd} {fin : List Kd → Prop} {W : WX} {σ : L2.St} {Q1 : Bool → Hp → Prop} {o : O} {kk : Bool → Sl → O} {F : O → Prop} (hs : ¬ F .stuck) (hx : ∀ x r, F (.exc x r) → ∀ Hs' H' c dd ks2, fin ks2 → StRel E Hs' H' ks2 r σ → XRep E.cl Hs' H' x c dd → W c dd σ H') (P : F (onB o kk))
    (h : ∀ b r' Hs' H', o = .rt (.bl b) r' → StRel E Hs' H' ks' r' σ → F (kk b r') → Q1 b H') : PostTX E ks' fin W σ Q1 o := by
  cases o with
  | stuck => exact (hs P).elim
  | nx r => exact (hs P).elim
  | exc x r => exact hx x r P
  | rt d r =>
    cases d <;> first | exact (hs P).elim | skip
    rename_i b
    exact fun Hs' H' S => h b r Hs' H' rfl S P
section
variable {X : Cx} {E : En} {fin : List Kd → Prop} {kr : Kd} {ks ks1 ks' : List Kd} {e a b : Expr} {rest : List Expr} {g ga : Sl → O} {tb : Sl → R Bool} {m1 m2 : Sl → O} {s1 s2 : List Stmt} {pos : Pos}
end
end VL
end

noncomputable section
namespace VL
open PySem PySem.Spec PyProof.Rows L2
open ModeZ

/-- the lambda object at f, with its code object at cN -/
def LamO (X : Cx) (f cN : Addr) (params : Arguments) (body : Expr) (scope : Scope) : HO := .ext fun h => ∃ pm ctv : Value, h.get? f = some (PySem.W.kla_obj "<lambda>" (X.env.qual ++ "<lambda>") params body scope (cloFrom X.env.cells scope.names []) pm cN ctv)
theorem lamO_nt {X : Cx} {f cN : Addr} {params : Arguments} {body : Expr} {scope : Scope} : NT (LamO X f cN params body scope) := fun ps z => by
  unfold LamO at z
  cases z
section
variable {X : Cx} {pins : List (Addr × Obj)} {σ : L2.St} {H : Hp} {s : Shared}
theorem lam_lay {c P : Addr} {params : Arguments} {body : Expr} {scope : Scope} {pos : Pos} {E : Value → Shared → Prop} {Q : Value → Shared → Prop} (I : Inv X pins σ H s) (TB : LamX.TabB X.base X.mg c P) (hcode : X.env.code = .ref c)
    (hq : X.env.qual ++ "<lambda>" = lamQ) (hT : LamX.TabS H P lamQ) (hdef : defaultsOf params X.env = ([], [])) (hfree : ∀ y ∈ scope.names, y.2 = .free → ∃ c, X.env.cells.lookup y.1 = some c)
    (goal : ∀ (f cN : Addr) (H1 : Hp) (s1 : Shared), Inv X pins σ (upd H1 f (LamO X f cN params body scope)) s1 → Same H H1 → (∀ B, LamX.TabS H B lamQ → LamX.TabS H1 B lamQ) → H1 f = none → H1 cN = some (LamX.CodeO cN (X.env.qual ++ "<lambda>")) → Q (.ref f) s1) :
    wpAny (model X.prog X.w) X.A (eval (.Lambda params body scope pos) X.env) Q E s := by
  rw [← hq] at hT
  obtain ⟨ps, atP, trip, known⟩ := hT
  refine PySem.W.kla_eval hdef ?_
  have bmP : s.heap.BuiltinsAt X.mg P := TB.bm.keeps I.bk
  have realP : s.heap.get? P = some { cls := .none, data := .fields ps } := I.hok P _ atP
  have lam_ok : ∀ (H0 : Hp) (hN : Heap) (cN : Addr) (pm ctv : Value), ObjOk X.prog X.w H0 (hN.push (PySem.W.kla_obj "<lambda>" (X.env.qual ++ "<lambda>") params body scope (cloFrom X.env.cells scope.names []) pm cN ctv)) hN.objs.size (LamO X hN.objs.size cN params body scope) := fun H0 hN cN pm ctv =>
    ⟨⟨pm, ctv, Heap.get?_push_size _ rfl⟩, ⟨_, Heap.get?_push_size _ rfl⟩, fun h1 h2 ⟨pm, ctv, e⟩ st => ⟨pm, ctv, st _ e⟩⟩
  cases hit : codeAmong pos ps.toList with
  | some cv =>
    obtain ⟨cN, e, hco⟩ := known pos cv hit
    subst e
    refine PySem.W.kla_makeFunctionHit (mg := X.mg) (c := c) (P := P) (ps := ps) (closure_ok hfree) I.ok.glob (I.mod.glob.keeps I.bk) hcode (TB.code.keeps I.bk) realP trip hit bmP fun ctv hN tk ext sz => ?_
    have I1 := I.laid (a := hN.objs.size) (o := LamO X hN.objs.size cN params body scope) (h' := hN.push (PySem.W.kla_obj "<lambda>" (X.env.qual ++ "<lambda>") params body scope (cloFrom X.env.cells scope.names []) ((X.mg "__name__").getD .none) cN ctv)) (t' := tk) (fun b o e => Heap.get?_push_of_some _ (ext b o e)) sz (lam_ok _ hN cN _ ctv)
    exact goal hN.objs.size cN H _ I1 (Same.refl H) (fun _ z => z) (I.hok.fresh sz) hco
  | none =>
    refine PySem.W.kla_makeFunction (mg := X.mg) (c := c) (P := P) (ps := ps) (closure_ok hfree) I.ok.glob (I.mod.glob.keeps I.bk) hcode (TB.code.keeps I.bk) realP trip hit TB.gP bmP fun cN ctv hN tk ext geN ltN recN tabN => ?_
    obtain ⟨c2, oc, us, t, e2, hoc, hdat, hname⟩ := recN
    cases e2
    have szs : s.heap.objs.size ≤ hN.objs.size := Nat.le_trans geN (Nat.le_of_lt ltN)
    have newC : H cN = none := I.hok.fresh geN
    have I0 := LamX.inv_table (t' := tk) (more := #[rawInt pos.line, rawInt pos.col, .ref cN]) (h' := hN) I atP (fun b o nb e => ext b o nb e) tabN geN ⟨oc, us, t, hoc, hdat, hname⟩
    have PnC : P ≠ cN := ne_of_none atP newC
    have stays : ∀ b o, H b = some o → b ≠ P → upd (upd H P (.tbl (ps ++ #[rawInt pos.line, rawInt pos.col, .ref cN]))) cN (LamX.CodeO cN (X.env.qual ++ "<lambda>")) b = some o := fun b o e nP => by
      rw [upd_ne (ne_of_none e newC), upd_ne nP]
      exact e
    have tabP : upd (upd H P (.tbl (ps ++ #[rawInt pos.line, rawInt pos.col, .ref cN]))) cN (LamX.CodeO cN (X.env.qual ++ "<lambda>")) P = some (.tbl (ps ++ #[rawInt pos.line, rawInt pos.col, .ref cN])) := by rw [upd_ne PnC, upd_same]
    have codeStays : ∀ (d : Addr) (q : Str), H d = some (LamX.CodeO d q) → d ≠ P := fun d q e z => by
      rw [z, atP] at e
      exact codeO_tbl ps (Option.some.inj e).symm
    have I1 := I0.laid (a := hN.objs.size) (o := LamO X hN.objs.size cN params body scope) (h' := hN.push (PySem.W.kla_obj "<lambda>" (X.env.qual ++ "<lambda>") params body scope (cloFrom X.env.cells scope.names []) ((X.mg "__name__").getD .none) cN ctv)) (t' := tk) (fun b o e => Heap.get?_push_of_some _ e) (Nat.le_refl _) (lam_ok _ hN cN _ ctv)
    refine goal hN.objs.size cN _ _ I1 ⟨fun b o e nt => ?_⟩ (fun B z => ?_) (I0.hok.fresh (Nat.le_refl _)) upd_same
    · by_cases hb : b = P
      · subst hb
        rw [tabP] at nt
        rcases nt with nt | nt
        · rw [atP] at e
          exact absurd (Option.some.inj e).symm (nt ps)
        · cases nt
      · exact stays b o e hb
    · obtain ⟨ps2, a1, a2, a3⟩ := z
      by_cases hb : B = P
      · subst hb
        have eL : (ps ++ #[rawInt pos.line, rawInt pos.col, .ref cN]).toList = ps.toList ++ [rawInt pos.line, rawInt pos.col, .ref cN] := by simp
        refine ⟨_, tabP, by rw [eL]; exact PySem.TriplesOk_snoc _ _ _ _ trip, fun p2 cv hcv => ?_⟩
        rw [eL] at hcv
        rcases LamX.among_app _ trip hcv with z | z
        · obtain ⟨c0, e1, e2⟩ := known p2 cv z
          rw [hq] at e2
          exact ⟨c0, e1, stays _ _ e2 (codeStays c0 _ e2)⟩
        · exact ⟨cN, z, by rw [upd_same, hq]⟩
      · refine ⟨ps2, stays _ _ a1 hb, a2, fun p2 cv hcv => ?_⟩
        obtain ⟨c0, e1, e2⟩ := a3 p2 cv hcv
        exact ⟨c0, e1, stays _ _ e2 (codeStays c0 _ e2)⟩
end
def tLamO (X : Cx) (P : Addr) (params : Arguments) (body : Expr) (scope : Scope) : TE := fun _ H Q => LamX.TabS H P lamQ ∧ ∀ (f cN : Addr) (H1 : Hp), Same H H1 → (∀ B, LamX.TabS H B lamQ → LamX.TabS H1 B lamQ) → H1 f = none → H1 cN = some (LamX.CodeO cN (X.env.qual ++ "<lambda>")) → Q (.ref f) (upd H1 f (LamO X f cN params body scope))
section
variable {X : Cx} {E : En} {fin : List Kd → Prop} {kr : Kd} {ks ks' : List Kd} {k : Nat}
/-- at f stands a lambda that does what g tells -/
def Acts (X : Cx) (E : En) (fin : List Kd → Prop) (kr : Kd) (ks ks' : List Kd) (k : Nat) (f : Addr) (H : Hp) (g : Sl → O) : Prop := ∃ (params : Arguments) (body : Expr) (scope : Scope) (cN : Addr), H f = some (LamO X f cN params body scope) ∧ H cN = some (LamX.CodeO cN (X.env.qual ++ "<lambda>")) ∧ LamX.LamS X.env.scope scope ∧
  (∀ (q : Str) (cl : List (Str × Addr)) (pm cv ctv : Value), bindArgs (PySem.W.kla_fn "<lambda>" q params body scope cl pm cv ctv) ⟨[], []⟩ = pure []) ∧
  ∀ (A : Around) (outer : List Env) (s1 : Shared) (H1 : Hp) (Ex : XK), Room k (A.deeper (LamX.lamEnv X scope s1.heap.objs.size f cN)) → SX (LamX.lamCx X A outer s1 H1 Ex scope f cN) E fin ks kr body g ks'
theorem Acts.same {f : Addr} {H H' : Hp} {g : Sl → O} (h : Acts X E fin kr ks ks' k f H g) (e : Same H H') : Acts X E fin kr ks ks' k f H' g := by
  obtain ⟨params, body, scope, cN, h1, h2, h3⟩ := h
  exact ⟨params, body, scope, cN, e.at _ _ h1 lamO_nt, e.at _ _ h2 (fun ps => codeO_tbl ps), h3⟩
def AllC (X : Cx) (E : En) (fin : List Kd → Prop) (kr : Kd) (ks ks' : List Kd) (k : Nat) (H : Hp) : List (Str × (Sl → O)) → List (Str × Addr) → Prop
  | [], [] => True
  | p :: gs, q :: fs => p.1 = q.1 ∧ Acts X E fin kr ks ks' k q.2 H p.2 ∧ AllC X E fin kr ks ks' k H gs fs
  | _, _ => False
theorem AllC.same {H H' : Hp} (e : Same H H') : ∀ {gs : List (Str × (Sl → O))} {fs : List (Str × Addr)}, AllC X E fin kr ks ks' k H gs fs → AllC X E fin kr ks ks' k H' gs fs
  | [], [], h => h
  | [], _ :: _, h => h.elim
  | _ :: _, [], h => h.elim
  | p :: gs, q :: fs, h => ⟨h.1, h.2.1.same e, AllC.same e h.2.2⟩
theorem AllC.keys {H : Hp} : ∀ {gs : List (Str × (Sl → O))} {fs : List (Str × Addr)}, AllC X E fin kr ks ks' k H gs fs → fs.map (·.1) = gs.map (·.1)
  | [], [], h => rfl
  | [], _ :: _, h => h.elim
  | _ :: _, [], h => h.elim
  | p :: gs, q :: fs, h => by rw [List.map_cons, List.map_cons, h.1, h.2.2.keys]
theorem AllC.imp {H H' : Hp} (e : ∀ b o, H b = some o → o ≠ .dK [] → H' b = some o) : ∀ {gs : List (Str × (Sl → O))} {fs : List (Str × Addr)}, AllC X E fin kr ks ks' k H gs fs → AllC X E fin kr ks ks' k H' gs fs
  | [], [], h => h
  | [], _ :: _, h => h.elim
  | _ :: _, [], h => h.elim
  | p :: gs, q :: fs, h => by
    obtain ⟨h1, ⟨params, body, scope, cN, b1, b2, b3⟩, h3⟩ := h
    exact ⟨h1, ⟨params, body, scope, cN, e _ _ b1 (fun z => by unfold LamO at z; cases z), e _ _ b2 (fun z => by unfold LamX.CodeO at z; cases z), b3⟩, AllC.imp e h3⟩
end
end VL
end

noncomputable section
namespace VL
open PySem PySem.Spec PyProof.Rows L2
open ModeZ

section
variable {X : Cx} {E : En} {kr : Kd} {fin : List Kd → Prop} {ks ks' : List Kd}
end
end VL
end

noncomputable section
namespace VL
open PySem PySem.Spec PyProof.Rows L2
open ModeZ

theorem XRep.same {cl : Cl} {Hs Hs' H H' : Hp} {x : Exc} {c : Value} {dd : Option Addr} (e : Same Hs Hs') (h : XRep cl Hs H x c dd) : XRep cl Hs' H' x c dd := by
  obtain ⟨a, e1, e2, e3⟩ := h
  refine ⟨a, e1, e2, ?_⟩
  cases q : x.at_ with
  | none => rw [q] at e3; exact e3
  | some d =>
    rw [q] at e3
    obtain ⟨p, v, f1, f2, f3⟩ := e3
    exact ⟨p, v, f1, e.at _ _ f2, Rep.same e _ _ f3⟩
end VL
end

noncomputable section
namespace VL
open PySem PySem.Spec PyProof.Rows L2
section
variable {md : Md}
section
variable {P : Program} {w : World} {K : PySem.W.Frag} {mg : Str → Option Value} {base : Heap} {cl : Cl} {x qual : Str} {st : Stmt} {fa : Addr} {fd : FuncData} {N ps : List Str} {k : Nat} {bs : List Bool} {kr : Kd} {k1 k2 ls : List Kd} {m : Sl → O}
end
section
variable {X : Cx} {E : En} {fin : List Kd → Prop} {kr : Kd} {ks ks' : List Kd} {is : List Nat} {kf : List Kd} {k n : Nat} {bs0 : Bool} {k1 k2 : List Kd} {bs : List Bool} {x : Str} {e : Expr} {es : List Expr} {f : List D → O} {t : Sl → R (List D)} {p pos : Pos} {kz : Kd}
end
end
open ModeZ
end VL
end

noncomputable section
namespace VL
open PySem PySem.Spec PyProof.Rows L2
variable {md : Md}

def zipD (ds es : List D) : List D := (ds.zip es).map fun p => .tup [p.1, p.2]
theorem zipD_get {ds es : List D} {i : Nat} {d : D} (h : (zipD ds es)[i]? = some d) : ∃ d0 e0, ds[i]? = some d0 ∧ es[i]? = some e0 ∧ d = .tup [d0, e0] := by
  unfold zipD at h
  rw [List.getElem?_map] at h
  cases q : (ds.zip es)[i]? with
  | none => rw [q] at h; cases h
  | some p =>
    rw [q] at h
    obtain ⟨h1, h2⟩ := List.getElem?_zip_eq_some.mp q
    cases h
    exact ⟨_, _, h1, h2, rfl⟩
theorem zipD_len (ds es : List D) : (zipD ds es).length = min ds.length es.length := by unfold zipD; rw [List.length_map, List.length_zip]
theorem ItOk.zip {K : PySem.W.Frag} {cl : Cl} {a b : Addr} {xs ys : List V} {ds es : List D} {Hs Bq : Hp} (rp : RepL cl Hs ds xs) (rp2 : RepL cl Hs es ys) (rt : ∀ Hs' H, Same Hs Hs' → Same Hs' H → Same Bq H → H a = some (.lst xs)) (rt2 : ∀ Hs' H, Same Hs Hs' → Same Hs' H → Same Bq H → H b = some (.lst ys)) (hz : xs.length ≤ szL) : ItOk cl (Itz K a b) (zipD ds es) Hs Bq where
  len := by rw [zipD_len, ← rp.length]; omega
  go := fun Hs' H e1 e2 e3 i hi => by
    rw [zipD_len] at hi
    obtain ⟨v, e, _⟩ := rp.get (d := ds[i]'(by omega)) (i := i) (by simp)
    obtain ⟨v2, e', _⟩ := rp2.get (d := es[i]'(by omega)) (i := i) (by simp)
    exact ⟨xs, ys, v, v2, SqL.of (rt Hs' H e1 e2 e3), SqL.of (rt2 Hs' H e1 e2 e3), e, e'⟩
  stop := fun Hs' H e1 e2 e3 => ⟨xs, ys, SqL.of (rt Hs' H e1 e2 e3), SqL.of (rt2 Hs' H e1 e2 e3), by rw [zipD_len, rp.length, rp2.length]; omega⟩
  yld := fun Hs' H e1 e2 e3 i d x H' hd y => by
    obtain ⟨T, v, v2, rfl, hT, rfl, y1, y2⟩ := y
    obtain ⟨d0, e0, h1, h2, rfl⟩ := zipD_get hd
    obtain ⟨u, eu, ru⟩ := rp.get h1
    obtain ⟨u2, eu2, ru2⟩ := rp2.get h2
    have q := y1 xs (SqL.of (rt Hs' _ e1 e2 e3))
    have q2 := y2 ys (SqL.of (rt2 Hs' _ e1 e2 e3))
    rw [eu] at q
    cases q
    rw [eu2] at q2
    cases q2
    have gs := e1.trans (Same.updNew (o := .tup [v, v2]) (e2.free hT))
    exact ⟨_, Grow.new e2 hT, .tup upd_same (.cons (Rep.same gs _ _ ru) (.cons (Rep.same gs _ _ ru2) .nil))⟩
section
variable {X : Cx} {E : En} {ks : List Kd} {mb : Bool} {e e2 : Expr} {g g2 : Sl → R D} {p pos : Pos}
end
end VL
end

noncomputable section
namespace VL
open PySem PySem.Spec PyProof.Rows L2
variable {md : Md}

section
variable {X : Cx} {E : En} {fin : List Kd → Prop} {kr : Kd} {ks ks' : List Kd} {i j : Nat} {n : Option Addr} {kk : List (Str × Kd)} {C f x : Str} {e : Expr} {g : Sl → O} {p0 p1 p2 p3 pos : Pos}
end

section
variable {X : Cx} {E : En} {fin : List Kd → Prop} {kr : Kd} {ks ks' ks1 : List Kd} {e a b : Expr} {rest : List Expr} {g ga gb : Sl → O} {gv : Sl → R D} {pos : Pos}
theorem PostX.bool {W : WX} {σ : L2.St} {Q1 Q : VK} {o : O} {kk : Bool → Sl → O} (P : PostX E ks1 .val fin W σ Q (onX o fun d r' => match d with
      | .bl b => kk b r'
      | _ => .stuck)) (h : ∀ b r' Hs' H', StRel E Hs' H' ks1 r' σ → PostX E ks1 .val fin W σ Q (kk b r') → Q1 (.bl b) H') : PostX E ks1 .val fin W σ Q1 o := by
  cases o with
  | stuck => exact P.elim
  | nx r => exact P.elim
  | exc x r => exact P
  | rt d r =>
    cases d <;> first | exact P.elim | skip
    rename_i b
    intro v Hs' H' S1
    obtain ⟨w, A, ew, o⟩ := S1.get (i := 0) rfl rfl
    cases ew
    cases o with
    | val rp =>
      cases rp
      exact h b r Hs' H' S1.pop P
end
end VL
end

noncomputable section
namespace VL
open PySem PySem.Spec PyProof.Rows L2
variable {md : Md}

section
variable {X : Cx} {E : En} {ks : List Kd} {a b : Expr} {ga gb : Sl → R D} {p p2 q pos : Pos}
end
end VL
end

noncomputable section
namespace VL
open PySem PySem.Spec PyProof.Rows L2
variable {md : Md}

section
variable {X : Cx} {E : En} {ks : List Kd} {a : Expr} {ga : Sl → R D} {x : Str} {l : List (Str × Str)} {p pos : Pos}
end
end VL
end

noncomputable section
namespace VL
open PySem PySem.Spec PyProof.Rows L2
variable {md : Md}

section
variable {X : Cx} {E : En} {ks : List Kd} {a b c : Expr} {ta : TA} {p p2 q pos : Pos} {t : Sl → R (List D)}
end
end VL
end

noncomputable section
namespace VL
open PySem PySem.Spec PyProof.Rows L2
variable {md : Md}

section
variable {X : Cx} {E : En} {ks : List Kd} {e : Expr} {g : Sl → R D} {x : Str} {j : Nat} {kp pos : Pos}
end
end VL
end

noncomputable section
namespace VL
open PySem PySem.Spec PyProof.Rows L2
variable {md : Md}

inductive Src where
  | l (a : Addr)
  | t (x : Str)
def Src.it (h : Heap) (i1 : Addr) (i : Nat) : Src → Prop
  | .l a => h.IsListIter i1 a i
  | .t x => ∃ tk, h.IsStrIter i1 (strIterType x) x tk i
def Src.val : Src → V
  | .l a => .ref a
  | .t x => .str x
def Src.has (K : PySem.W.Frag) (H : Hp) (i : Nat) (v : V) : Src → Prop
  | .l a => ∃ xs, SqL K H a xs ∧ xs[i]? = some v
  | .t x => ∃ c, x.cps[i]? = some c ∧ v = .str ⟨#[c]⟩
def Src.len (K : PySem.W.Frag) (H : Hp) (n : Nat) : Src → Prop
  | .l a => ∃ xs : List V, SqL K H a xs ∧ xs.length = n
  | .t x => x.cps.size = n
def Src.fp (i1 : Addr) : Src → List Addr
  | .l a => [i1, a]
  | .t _ => [i1]
def Src.off (i1 : Addr) : Src → Prop
  | .l a => a ≠ i1
  | .t _ => True
section
variable {X : Cx} {pins : List (Addr × Obj)} {σ : L2.St} {H : Hp} {s : Shared}
end
/-- a source is at hand, and stays -/
structure SrcOk (K : PySem.W.Frag) (cl : Cl) (Hs Bq : Hp) (ds : List D) (r : Src) : Prop where
  sz : ds.length ≤ szL
  len : ∀ Hs' H, Same Hs Hs' → Same Hs' H → Same Bq H → r.len K H ds.length
  has : ∀ Hs' H, Same Hs Hs' → Same Hs' H → Same Bq H → ∀ i d, ds[i]? = some d → ∃ v, r.has K H i v ∧ Rep cl Hs' d v
theorem SrcOk.grow {K : PySem.W.Frag} {cl : Cl} {Hs Bq Hs2 Bq2 : Hp} {ds : List D} {r : Src} (S : SrcOk K cl Hs Bq ds r) (a : Same Hs Hs2) (b : Same Bq Bq2) : SrcOk K cl Hs2 Bq2 ds r :=
  ⟨S.sz, fun Hs' H e1 e2 e3 => S.len Hs' H (a.trans e1) e2 (b.trans e3), fun Hs' H e1 e2 e3 => S.has Hs' H (a.trans e1) e2 (b.trans e3)⟩
section
variable {X : Cx} {E : En} {ks : List Kd} {mb : Bool} {e e2 : Expr} {g g2 : Sl → R D} {p pos : Pos}
end
end VL
end

noncomputable section
namespace VL
open PySem PySem.Spec PyProof.Rows L2
variable {md : Md}

section
variable {X : Cx} {E : En} {ks : List Kd}
end
section
variable {X : Cx} {E : En} {ks : List Kd} {a : Expr} {ga : Sl → R D} {x : Str} {l : List (Str × Str)} {p pos : Pos}
end
end VL
end

noncomputable section
namespace VL
open PySem PySem.Spec PyProof.Rows L2
variable {md : Md}

section
variable {X : Cx} {E : En} {ks : List Kd} {i : Nat} {n : Option Addr} {k : Kd} {x : Str} {b : Expr} {gb : Sl → R D} {p pos : Pos}
end
structure El where
  ds : List D
  n : Int
  k : Nat
  d : D
inductive EV (H : Hp) : List El → List V → List V → Prop
  | nil : EV H [] [] []
  | cons {t : El} {T : List El} {a : Addr} {xs : List V} {u : V} {uf ue : List V} : H a = some (.lst xs) → xs.length = t.ds.length → xs[t.k]? = some u → EV H T uf ue → EV H (t :: T) (.ref a :: uf) (u :: ue)
theorem EV.inj {H : Hp} : ∀ {T : List El} {uf ue ue' : List V}, EV H T uf ue → EV H T uf ue' → ue = ue'
  | _, _, _, _, .nil, .nil => rfl
  | _, _, _, _, .cons a1 _ a3 a4, .cons b1 _ b3 b4 => by
    rw [a1] at b1
    cases b1
    rw [a3] at b3
    cases b3
    rw [EV.inj a4 b4]
theorem EV.grow {Hs H Hs' H' : Hp} (g : Grow Hs H Hs' H') : ∀ {T : List El} {uf ue : List V}, EV H T uf ue → EV H' T uf ue
  | _, _, _, .nil => .nil
  | _, _, _, .cons a1 a2 a3 a4 => .cons (g.h.at _ _ a1 (by intro _ z; cases z)) a2 a3 (EV.grow g a4)
section
variable {cl : Cl} {N : Addr → Prop} {B Hs H : Hp}
end
section
variable {X : Cx} {E : En} {ks : List Kd} {is : List (Nat × Nat)} {bs : List Bool} {es : List Expr} {t : Sl → R (List D)} {i j : Nat} {x y : Str} {p p2 pos pos2 : Pos}
end
section
variable {X : Cx} {E : En} {fin : List Kd → Prop} {kr : Kd} {ks ks' : List Kd} {is : List (Nat × Nat)} {kf ke : List Kd} {k n : Nat} {bs0 : Bool} {k1 k2 : List Kd} {bs : List Bool} {x : Str} {e : Expr} {es : List Expr} {f : List D → O} {t : Sl → R (List D)} {p pos : Pos}
end
end VL
end

noncomputable section
namespace VL
open PySem PySem.Spec PyProof.Rows L2
variable {md : Md}

section
variable {E : En} {Hs H : Hp} {ks : List Kd} {r : Sl} {σ : L2.St}
end
section
variable {X : Cx} {E : En} {fin : List Kd → Prop} {kr : Kd} {ks ks' : List Kd} {i : Nat} {n : Option Addr} {k : Kd} {x : Str} {e b : Expr} {gb gv : Sl → R D} {g : Sl → O} {p1 p2 p pos : Pos}
end
section
variable {X : Cx} {E : En} {fin : List Kd → Prop} {kr : Kd} {ks : List Kd} {i : Nat} {n : Option Addr} {x m C : Str} {b : Expr} {gb : Sl → R D} {f : List D → O} {k : Nat} {k1 : List (Str × Kd)} {p1 p2 apos pos : Pos}
end
section
variable {P : Program} {w : World} {K : PySem.W.Frag} {mg : Str → Option Value} {base : Heap} {cl : Cl} {x qual : Str} {st : Stmt} {fa : Addr} {fd : FuncData} {N ps : List Str} {k : Nat} {bs : List Bool} {kr : Kd} {k1 k2 ls : List Kd} {m : Sl → O}
end
section
variable {X : Cx} {E : En} {fin : List Kd → Prop} {ks ks' : List Kd} {a b : Expr} {rest : List Expr} {ga gb : Sl → O} {ta : Sl → R Bool} {pos : Pos}
end
end VL
end

noncomputable section
namespace VL
open PySem PySem.Spec PyProof.Rows L2
variable {md : Md}

/-- a zip at turn i; S: the list that is made -/
structure ZSt (h : Heap) (z TI TO i1 i2 l1 l2 S : Addr) (xs ys : Array Value) (i : Nat) : Prop where
  ti : IsPair h TI (.ref i1) (.ref i2)
  h1 : h.IsListIter i1 l1 i
  h2 : h.IsListIter i2 l2 i
  x : h.IsList l1 xs
  y : h.IsList l2 ys
  hz : (IsZip h z TI TO .none ∧ ∃ a b, IsPair h TO a b) ∨ ∃ T f oT, IsZipHeld h z TI TO T f ∧ h.get? T = some oT ∧ T ≠ z ∧ T ≠ i1 ∧ T ≠ i2 ∧ T ≠ S
structure ZOff (S z TI TO i1 i2 l1 l2 : Addr) : Prop where
  z : S ≠ z
  ti : S ≠ TI
  to : S ≠ TO
  a : S ≠ i1
  b : S ≠ i2
  x : S ≠ l1
  y : S ≠ l2
theorem ZSt.keep {h h' : Heap} {z TI TO i1 i2 l1 l2 S : Addr} {xs ys : Array Value} {i : Nat} (st : ZSt h z TI TO i1 i2 l1 l2 S xs ys i) (O : ZOff S z TI TO i1 i2 l1 l2) (hk : ∀ b o, b ≠ S → h.get? b = some o → h'.get? b = some o) : ZSt h' z TI TO i1 i2 l1 l2 S xs ys i := by
  obtain ⟨hTI, h1, h2, hl1, hl2, hz⟩ := st
  refine ⟨hk _ _ (Ne.symm O.ti) hTI, h1.at fun o e => hk _ o (Ne.symm O.a) e, h2.at fun o e => hk _ o (Ne.symm O.b) e, hl1.at fun o e => hk _ o (Ne.symm O.x) e, hl2.at fun o e => hk _ o (Ne.symm O.y) e, ?_⟩
  rcases hz with ⟨hz, a, b, hTO⟩ | ⟨T, f, oT, hz, hT, r1, r2, r3, r4⟩
  · exact .inl ⟨hk _ _ (Ne.symm O.z) hz, a, b, hk _ _ (Ne.symm O.to) hTO⟩
  · exact .inr ⟨T, f, oT, hk _ _ (Ne.symm O.z) hz, hk _ _ r4 hT, r1, r2, r3, r4⟩
section
variable {prog : Program} {w : World} {A : Around} {E : Value → Shared → Prop} {s : Shared} {z TI TO i1 i2 l1 l2 S : Addr} {xs ys : Array Value} {i : Nat}
end
/-- the tuples made -/
structure ZG (xs ys : Array Value) (lo : Addr) (h : Heap) (as : List Addr) : Prop where
  rise : as.Pairwise (· < ·)
  above : ∀ a ∈ as, lo ≤ a
  pairs : ∀ (j : Nat) (a : Addr), as[j]? = some a → ∃ x y, xs[j]? = some x ∧ ys[j]? = some y ∧ h.get? a = some { cls := .type "tuple", data := .seq #[x, y] }
theorem ZG.there {xs ys : Array Value} {lo : Addr} {h : Heap} {as : List Addr} (g : ZG xs ys lo h as) {a : Addr} (ha : a ∈ as) : a < h.objs.size := by
  obtain ⟨j, hj⟩ := List.mem_iff_getElem?.mp ha
  obtain ⟨_, _, _, _, e⟩ := g.pairs j a hj
  exact Heap.lt_size e
theorem ZG.low {xs ys : Array Value} {lo lo' : Addr} {h : Heap} {as : List Addr} (g : ZG xs ys lo h as) (hl : lo' ≤ lo) : ZG xs ys lo' h as := ⟨g.rise, fun a ha => Nat.le_trans hl (g.above a ha), g.pairs⟩
section
variable {prog : Program} {w : World} {A : Around} {s : Shared} {R : Result → Shared → Prop} {z TI TO i1 i2 l1 l2 S : Addr} {xs ys : Array Value}
end
section
variable {prog : Program} {w : World} {A : Around} {E : Value → Shared → Prop} {s : Shared} {z TI TO i1 i2 l1 l2 : Addr} {xs ys : Array Value}
/-- a zip as it is made -/
structure Z0 (h : Heap) (z TI TO i1 i2 l1 l2 : Addr) (xs ys : Array Value) : Prop where
  z : IsZip h z TI TO .none
  ti : IsPair h TI (.ref i1) (.ref i2)
  to : ∃ a b, IsPair h TO a b
  h1 : h.IsListIter i1 l1 0
  h2 : h.IsListIter i2 l2 0
  x : h.IsList l1 xs
  y : h.IsList l2 ys
theorem Z0.keep {S : Addr} {h h' : Heap} (st : Z0 h z TI TO i1 i2 l1 l2 xs ys) (O : ZOff S z TI TO i1 i2 l1 l2) (hk : ∀ b o, b ≠ S → h.get? b = some o → h'.get? b = some o) : Z0 h' z TI TO i1 i2 l1 l2 xs ys :=
  ⟨hk _ _ (Ne.symm O.z) st.z, hk _ _ (Ne.symm O.ti) st.ti, let ⟨a, b, e⟩ := st.to; ⟨a, b, hk _ _ (Ne.symm O.to) e⟩, st.h1.at fun o e => hk _ o (Ne.symm O.a) e, st.h2.at fun o e => hk _ o (Ne.symm O.b) e, st.x.at fun o e => hk _ o (Ne.symm O.x) e, st.y.at fun o e => hk _ o (Ne.symm O.y) e⟩
theorem Z0.st {S : Addr} {h : Heap} (st : Z0 h z TI TO i1 i2 l1 l2 xs ys) : ZSt h z TI TO i1 i2 l1 l2 S xs ys 0 := ⟨st.ti, st.h1, st.h2, st.x, st.y, .inl ⟨st.z, st.to⟩⟩
end
theorem RepL.mk {cl : Cl} {H : Hp} : ∀ {ds : List D} {vs : List V}, ds.length = vs.length → (∀ (j : Nat) (d : D) (v : V), ds[j]? = some d → vs[j]? = some v → Rep cl H d v) → RepL cl H ds vs
  | [], [], _, _ => .nil
  | [], _ :: _, h, _ => by cases h
  | _ :: _, [], h, _ => by cases h
  | d :: ds, v :: vs, h, f => .cons (f 0 d v rfl rfl) (RepL.mk (Nat.succ.inj h) fun j d v e1 e2 => f (j + 1) d v (by simpa using e1) (by simpa using e2))
end VL
end

noncomputable section
namespace VL
open PySem PySem.Spec PyProof.Rows L2
variable {md : Md}

section
variable {X : Cx} {E : En} {ks : List Kd} {k : Kd} {e : Expr} {es : List Expr} {g : Sl → R D} {t : Sl → R (List D)} {pos : Pos}
end
section
variable {X : Cx} {E : En} {Hs H : Hp} {ks : List Kd} {r : Sl} {σ : L2.St} {i : Nat} {k : Kd}
end
section
variable {X : Cx} {E : En} {kr : Kd} {fin : List Kd → Prop} {ks : List Kd} {i j : Nat} {n m : Option Addr} {x y : Str} {e : Expr} {g : Sl → R D} {pos p1 p2 p3 p4 p5 p6 : Pos}
end
end VL
end

noncomputable section
namespace VL
open PySem PySem.Spec PyProof.Rows L2 PySem.Calls PySem.W

section
variable {prog : Program} {w : World} {A : Around} {E : Value → Shared → Prop} {s : Shared} {a kS : Addr} {b : Bool} {vs : List Value} {keys : Array Value} {e e1 : Nat} {P : PySem.Fin → Shared → Prop} {kz : List PyData} {h₀ : Heap}
def KeyStd (h₀ : Heap) (k : PyData) (s₁ : Shared) (v : Value) (s₂ : Shared) : Prop := ∃ h' tk, s₂ = { s₁ with heap := h', toks := tk } ∧ (∀ b o, s₁.heap.get? b = some o → h'.get? b = some o) ∧ ∃ as, Reads h₀ v k as
theorem keyG_rest {f : Value} {h₁ : Heap} (up : ∀ g, KeepsBut a h₁ g → ∀ b o, h₀.get? b = some o → g.get? b = some o) (kp : KeepsBut a h₁ s.heap) (hkS : h₁.get? kS = none) (nk : s.heap.get? kS = some (seqObj "list" #[] 0)) (na : s.heap.get? a = some (seqObj "list" #[] e1)) (hka : kS ≠ a)
    (hlen : kz.length = vs.length) (hZ : vs.length ≤ sizeLine) (hal : AllAlike kz) (hsk : Sortable kz) (hu : ∀ d, d ∈ kz → A.units + d.depth < cLine)
    (turn : ∀ (i : Nat) (v : Value) (k : PyData), vs[i]? = some v → kz[i]? = some k → ∀ (h : Heap) (tk : Nat), KeepsBut a h₁ h →
      wpAny (model prog w) A (call f [v]) (KeyStd h₀ k { s with heap := h, toks := tk }) (fun _ _ => False) { s with heap := h, toks := tk })
    (h : ∀ h' tk out c, KeepsBut a h₁ h' → h'.get? a = some (seqObj "list" (List.toArray out) c) → KeyedOut b kz vs out → P (.done (.ret .none)) { s with heap := h', toks := tk }) :
    wpAny (model prog w) A (ksk_rest a f b vs.toArray e1 (.ref kS)) P E s := by
  unfold ksk_rest
  refine wpAny_bind (wpAny_rule ?_)
  first
    | rw [List.forIn_toArray]
    | (rw [← Array.forIn_toList]; simp only [List.toList_toArray])
    | rw [← Array.forIn_toList]
  refine wpAny_bind (ksk_fold (fun i s' => ∃ h' tk kA e, s' = { s with heap := h', toks := tk } ∧ KeepsBut a h₁ h' ∧ h'.get? kS = some (seqObj "list" kA e) ∧ h'.get? a = some (seqObj "list" #[] e1) ∧ EachIs (fun v k => ∃ as, Reads h₀ v k as) kA.toList (kz.take i)) vs 0 s
    ⟨s.heap, s.toks, #[], 0, rfl, kp, nk, na, by rw [List.take_zero]; exact EachIs.nil⟩ ?step ?done)
  case step =>
    rintro j x s' hx ⟨h', tk, kA, e, rfl, kp', nk', na', hk⟩
    simp only [Nat.zero_add] at hk ⊢
    have hj : j < vs.length := (List.getElem?_eq_some_iff.mp hx).1
    obtain ⟨k, hkj⟩ : ∃ k, kz[j]? = some k := ⟨_, List.getElem?_eq_getElem (by omega)⟩
    have hz : kA.size ≤ vs.length := by
      have h1 := hk.length
      rw [Array.length_toList, List.length_take] at h1
      omega
    refine wpAny_bind (wpAny_attempt (wpAny_mono (turn j x k hx hkj h' tk kp') (fun v s'' he => ?_) fun _ _ hF => hF.elim))
    obtain ⟨g, tk2, rfl, hg, hr⟩ := he
    try dsimp only
    have nk2 : g.get? kS = some (seqObj "list" kA e) := hg _ _ nk'
    have na2 : g.get? a = some (seqObj "list" #[] e1) := hg _ _ na'
    have s1 := Heap.SameBut.update g kS (Obj.mapSeq (·.push v))
    obtain ⟨c2, hc2⟩ : ∃ c2, (g.update kS (Obj.mapSeq (·.push v))).get? kS = some (seqObj "list" (kA.push v) c2) := ⟨_, get?_update_seq nk2 (·.push v)⟩
    have ek : kz.take (j + 1) = kz.take j ++ [k] := by rw [List.take_add_one, hkj]; simp
    have ea : (kA.push v).toList = kA.toList ++ [v] := by simp
    refine wpAny_bind (listUpdate_at nk2 rfl ?_ (Nat.le_trans hz hZ) (Nat.le_trans (Nat.le_of_eq (Array.size_push ..)) (Nat.succ_le_succ (Nat.le_trans hz hZ))))
    refine wpAny_pure ⟨rfl, _, _, kA.push v, c2, rfl, (kp'.trans_all hg).same s1 (.inr hkS), hc2, (s1.2 a hka.symm).trans na2, ?_⟩
    rw [ea, ek]
    exact each_snoc (R := fun (u : Value) (d : PyData) => ∃ as, Reads h₀ u d as) hr hk
  case done =>
    rintro s' ⟨h', tk, kA, e, rfl, kp', nk', na', hk⟩
    have hk' : EachIs (fun v k => ∃ as, Reads h' v k as) kA.toList kz := by
      have e3 : kz.take (0 + vs.length) = kz := List.take_of_length_le (by omega)
      rw [e3] at hk
      exact hk.mono fun v k ⟨as, q⟩ => ⟨as, PyProof.Rows.Reads.keeps (up _ kp') q⟩
    have hsz : kA.size = vs.length := by
      have h1 := hk'.length
      rw [Array.length_toList] at h1
      omega
    try dsimp only
    refine wpAny_bind (listItems_at nk' rfl ?_)
    exact keyH_end (κ := dataKind h' kz) (h₁ := h₁) kp' hkS nk' na' hka (SortsAt.data (s := { s with heap := h', toks := tk }) hk' hal hsk hu) hsz hZ fun h3 tk3 c k3 n3 => h h3 tk3 _ c k3 n3 ⟨h', kA.toList, hal, rfl, hk'⟩
theorem keyG_tree {f : Value} {n : Nat} (up : ∀ g, KeepsBut a s.heap g → ∀ b o, h₀.get? b = some o → g.get? b = some o) (ho : s.heap.get? a = some (seqObj "list" vs.toArray n)) (hlen : kz.length = vs.length) (hZ : vs.length ≤ sizeLine) (hal : AllAlike kz) (hsk : Sortable kz) (hu : ∀ d, d ∈ kz → A.units + d.depth < cLine)
    (turn : ∀ (i : Nat) (v : Value) (k : PyData), vs[i]? = some v → kz[i]? = some k → ∀ (h : Heap) (tk : Nat), KeepsBut a s.heap h →
      wpAny (model prog w) A (call f [v]) (KeyStd h₀ k { s with heap := h, toks := tk }) (fun _ _ => False) { s with heap := h, toks := tk })
    (h : ∀ h' tk out c, KeepsBut a s.heap h' → h'.get? a = some (seqObj "list" (List.toArray out) c) → KeyedOut b kz vs out → P (.done (.ret .none)) { s with heap := h', toks := tk }) :
    wpAny (model prog w) A (ksk_tree a f b) P E s := by
  have ha : a < s.heap.objs.size := Heap.lt_size ho
  obtain ⟨e1, ho1⟩ : ∃ e1, (s.heap.update a (Obj.mapSeq fun _ => (#[] : Array Value))).get? a = some (seqObj "list" #[] e1) := ⟨_, get?_update_seq ho fun _ => #[]⟩
  have hkS : ((s.heap.update a (Obj.mapSeq fun _ => (#[] : Array Value))).push (seqObj "tuple" vs.toArray 0)).objs.size = s.heap.objs.size + 1 := by rw [size_push', Heap.size_update]
  unfold ksk_tree
  refine wpAny_bind (listItems_at ho rfl ?_)
  refine wpAny_bind (listUpdate_at ho rfl ?_ (by rw [List.size_toArray]; exact hZ) (Nat.zero_le _))
  refine wpAny_bind (seqEpoch_at ho1 rfl ?_)
  refine wpAny_bind (wpAny_newTuple ?_ (by show vs.length ≤ _; exact hZ))
  refine wpAny_bind (wpAny_newList ?_ (Nat.zero_le _))
  refine wpAny_holding ?_
  have kp : KeepsBut a s.heap (sortingHeap s.heap a vs) := fun b o hb q => sortingHeap_old hb q
  refine keyG_rest (kz := kz) (h₁ := s.heap) (s := { s with heap := ((s.heap.update a (Obj.mapSeq fun _ => (#[] : Array Value))).push (seqObj "tuple" vs.toArray 0)).push (seqObj "list" #[] 0) }) (kS := ((s.heap.update a (Obj.mapSeq fun _ => (#[] : Array Value))).push (seqObj "tuple" vs.toArray 0)).objs.size)
    up kp (Heap.get?_none_of_le (by rw [hkS]; exact Nat.le_succ _)) (Heap.get?_push_size _ rfl) (Heap.get?_push_of_some _ (Heap.get?_push_of_some _ ho1)) (by rw [hkS]; exact Nat.ne_of_gt (Nat.lt_succ_of_lt ha)) hlen hZ hal hsk hu turn h
theorem keyG_turns {β : Type} {bs : List β} {R : Value → β → Prop} {f : Value} {k : β → PyData} {h₁ : Heap} (e : EachIs R vs bs)
    (turn : ∀ (v : Value) (x : β), R v x → x ∈ bs → ∀ (h : Heap) (tk : Nat), KeepsBut a h₁ h → wpAny (model prog w) A (call f [v]) (KeyStd h₀ (k x) { s with heap := h, toks := tk }) (fun _ _ => False) { s with heap := h, toks := tk }) :
    ∀ (i : Nat) (v : Value) (d : PyData), vs[i]? = some v → (bs.map k)[i]? = some d → ∀ (h : Heap) (tk : Nat), KeepsBut a h₁ h →
      wpAny (model prog w) A (call f [v]) (KeyStd h₀ d { s with heap := h, toks := tk }) (fun _ _ => False) { s with heap := h, toks := tk } := by
  intro i v d hv hd h tk kp
  rw [List.getElem?_map] at hd
  cases q : bs[i]? with
  | none => rw [q] at hd; simp at hd
  | some x =>
    rw [q] at hd
    have hd' : some (k x) = some d := hd
    rw [← Option.some.inj hd']
    have hz : (v, x) ∈ vs.zip bs := List.mem_of_getElem? (i := i) (by rw [List.getElem?_zip_eq_some]; exact ⟨hv, q⟩)
    exact turn v x (e.zip _ hz) (List.mem_of_getElem? q) h tk kp
theorem sorted_key_std {β : Type} {bs : List β} {R : Value → β → Prop} {l : Addr} {f : Value} {kw : List (Str × Value)} {Q : Value → Shared → Prop} (k : β → PyData) (hl : s.heap.IsList l vs.toArray) (e : EachIs R vs bs) (hal : AllAlike (bs.map k)) (hk : Sortable (bs.map k)) (hL : bs.length ≤ sizeLine)
    (hu : ∀ x, x ∈ bs → A.units + 2 + (k x).depth < cLine) (ha1 : argsOk "sorted" ⟨[.ref l], kw⟩) (ha2 : ∀ x, argsOk "list.sort" ⟨[.ref x], kw⟩) (ht : ∀ x, Builtin.«list.sort» ⟨[.ref x], kw⟩ = ksk_tree x f b)
    (turn : ∀ (v : Value) (x : β), R v x → x ∈ bs → ∀ (h : Heap) (tk : Nat), (∀ b o, s.heap.get? b = some o → h.get? b = some o) →
      wpAny (model prog w) A.in1.in1 (call f [v]) (KeyStd s.heap (k x) { s with heap := h, toks := tk }) (fun _ _ => False) { s with heap := h, toks := tk })
    (h : ∀ out c h' tk, (∀ b o, s.heap.get? b = some o → h'.get? b = some o) → s.heap.get? (s.heap.objs.size + 1) = none → h'.get? (s.heap.objs.size + 1) = some (seqObj "list" (List.toArray out) c) → out.length = bs.length → EachIs R out (bs.mergeSort (dataLe b k)) →
      Q (.ref (s.heap.objs.size + 1)) { s with heap := h', toks := tk }) :
    wpAny (model prog w) A (call (.builtin "sorted") [.ref l] kw) Q E s := by
  have fresh : s.heap.get? (s.heap.objs.size + 1) = none := Heap.get?_none_of_le (Nat.le_succ _)
  have up : ∀ (g : Heap), KeepsBut (s.heap.objs.size + 1) (copyHeap s.heap vs) g → ∀ b o, s.heap.get? b = some o → g.get? b = some o := fun g kp b o q =>
    kp b o (Nat.ne_of_lt (Nat.lt_succ_of_lt (Heap.lt_size q))) (copyHeap_old q)
  refine sorted_of_sort hl (by rw [e.length]; exact hL) ha1 ha2 fun E' => ?_
  rw [ht]
  refine keyG_tree (kz := bs.map k) (h₀ := s.heap) (s := { s with heap := copyHeap s.heap vs }) up (copyHeap_at s.heap vs) (by rw [List.length_map]; exact e.length.symm) (by rw [e.length]; exact hL) hal hk (bound_map (A := A.in1.in1) hu)
    (keyG_turns (s := { s with heap := copyHeap s.heap vs }) e fun v x hR hx h tk kp => turn v x hR hx h tk (up _ kp)) fun h' tk out c kp hD ko => ⟨rfl, ?_⟩
  exact h out c h' tk (up _ kp) fresh hD ((ko.length (by rw [List.length_map]; exact e.length.symm)).trans e.length) (keyedOut_each k ko e)
end

/-- a lambda of one parameter that gives its item at j -/
structure ItemLam (params : Arguments) (body : Expr) (scope : Scope) (j : Nat) : Prop where
  kind : scope.kind = .function
  co : scope.isCoroutine = false
  gen : scope.isGenerator = false
  own : ∀ y ∈ scope.names, y.2 ≠ .cell ∧ y.2 ≠ .free
  shape : ∃ (x : Str) (p1 p2 p3 : Pos) (c : Nat), body = .Subscript (.Name x p1) (.Constant (.int (j : Int)) c p2) p3 ∧ scope.names.lookup x = some .local ∧ (x == ("__debug__" : Str)) = false ∧
    ∀ (q : Str) (cl : List (Str × Addr)) (pm cv ctv v : Value), bindArgs (kla_fn "<lambda>" q params body scope cl pm cv ctv) ⟨[v], []⟩ = pure [(x, v)]
theorem item_act {prog : Program} {w : World} {A : Around} {s : Shared} {params : Arguments} {body : Expr} {scope : Scope} {j : Nat} (L : ItemLam params body scope j) {f cN : Addr} {q : Str} {cl : List (Str × Addr)} {pm ctv : Value} {t : Addr} {its : Array Value} {x : Value} {Q : Value → Shared → Prop} {E : Value → Shared → Prop}
    (hroom : A.depth < recursionLimit) (lim : s.heap.NoLimit) (ho : s.heap.get? f = some (kla_obj "<lambda>" q params body scope cl pm cN ctv)) (hcd : s.heap.CodeRec (.ref cN) q) (ht : IsTup s.heap t its) (hj : j < 2 ^ 62) (hx : its[j]? = some x)
    (h : ∀ h' tk, (∀ b o, s.heap.get? b = some o → h'.get? b = some o) → Q x { s with heap := h', toks := tk }) : wpAny (model prog w) A (call (.ref f) [.ref t]) Q E s := by
  obtain ⟨y, p1, p2, p3, c, rfl, hy, hdb, hbind⟩ := L.shape
  refine wpAny_call (kla_callFunE hroom ho rfl L.co L.gen rfl hcd ?_)
  rw [hbind]
  refine wpAny_pure (wpAny_newFunctionEnv (fun z hz => (L.own z hz).1) (fun z hz => ?_) (fun h2 ns2 bl2 => ⟨lim.fresh _ bl2, ?_⟩) L.kind)
  · rcases List.mem_singleton.mp hz with rfl
    exact hy
  have kept : ∀ b o, s.heap.get? b = some o → h2.get? b = some o := fun b o e => bl2.extBut b o (Nat.ne_of_lt (Heap.lt_size e)) (Heap.get?_push_of_some _ e)
  refine kla_codeExpr (Subscript_ (wpAny_Name (wpAny_loadName_local L.kind ?_ ns2 (v := .ref t) ?_ ?_) hdb))
  · exact hy
  · simp
  refine wpAny_Constant_int ?_
  refine item_tuple (j := j) ?_ (by omega) (by omega) ?_ hx (h _ _ kept)
  · exact ht.keeps kept
  · have : j < its.size := (Array.getElem?_eq_some_iff.mp hx).1
    simp [seqIndex?]; omega

def keyAtD (j : Nat) : D → D
  | .tup ds => ds.getD j .non
  | d => d
def isTupJ (j : Nat) : D → Bool
  | .tup ds => decide (j < ds.length)
  | _ => false
def leK (j : Nat) : D → D → Bool := dataLe false fun d => toPy (keyAtD j d)
def dSortK (j : Nat) : D → R D
  | .lst ds => if ds.all (isTupJ j) && okSort (ds.map (keyAtD j)) then .ok (.lst (ds.mergeSort (leK j))) else .stuck
  | _ => .stuck
def rSortK (X : Cx) (params : Arguments) (body : Expr) (scope : Scope) (j : Nat) : List V → List V → Hp → VK → Prop := fun vs zs H Q => ∃ (a f cN : Addr) (bs : List (V × D)), vs = [V.ref a] ∧ zs = [V.ref f] ∧ H f = some (LamO X f cN params body scope) ∧ H cN = some (LamX.CodeO cN (X.env.qual ++ "<lambda>")) ∧
  SqL X.K H a (bs.map (·.1)) ∧ (∀ b ∈ bs, ∃ t xs y, b.1 = V.ref t ∧ SqT X.K H t xs ∧ xs[j]? = some y ∧ Dp X.K H y (toPy (keyAtD j b.2)) ∧ (toPy (keyAtD j b.2)).depth ≤ 60) ∧
  AllAlike (bs.map fun b => toPy (keyAtD j b.2)) ∧ Sortable (bs.map fun b => toPy (keyAtD j b.2)) ∧ ∀ p, H p = none → Q (.ref p) (upd H p (.lst ((bs.mergeSort (dataLe false fun b => toPy (keyAtD j b.2))).map (·.1))))
section
variable {md : Md} {X : Cx}
theorem each_rel {bs : List (V × D)} {its : List Value} : Vals (bs.map (·.1)) its → EachIs (fun v (b : V × D) => RelV b.1 v) its bs := fun h => by
  induction bs generalizing its with
  | nil => cases h; exact .nil
  | cons b bs ih => cases h with | cons r t => exact .cons r (ih t)
theorem cr_sortK {params : Arguments} {body : Expr} {scope : Scope} {j : Nat} {k : Nat} (hr : Room (k + 1) X.A) (L : ItemLam params body scope j) (hj : j < 2 ^ 62) : CallRK X (.builtin "sorted") [Str.ofString "key"] (rSortK X params body scope j) := by
  intro pins s σ H vs zs us ws Q I rv rz h
  obtain ⟨a, f, cN, bs, rfl, rfl, atF, atC, hs, hd, al, so, q⟩ := h
  obtain ⟨its, rs, hl, hz⟩ := I.list hs
  rw [Vals.ref1 rv, Vals.ref1 rz]
  obtain ⟨⟨pm, ctv, objF⟩, _, _⟩ := I.hok f _ atF
  obtain ⟨⟨oc, cs, t, eoc, edat, ename⟩, _, _⟩ := I.hok cN _ atC
  have hun := hr.un
  refine sorted_key_std (bs := bs) (b := false) (k := fun b => toPy (keyAtD j b.2)) hl.isList (each_rel rs) al so (by rw [List.length_map] at hz; exact hz) (fun b hb => by obtain ⟨_, _, _, _, _, _, _, z⟩ := hd b hb; show X.A.units + 2 + _ < _; omega) (ksk_s1 _ _) (fun x => ksk_l1 _ _) (fun x => ksk_t1 _ _) (fun v b hR hb h tk ext => ?_) fun out c h' tk ext fr hD hlen hout => ?_
  · obtain ⟨t, xs, y, e1, e2, e3, e4, e5⟩ := hd b hb
    rw [e1] at hR
    obtain rfl : v = Value.ref t := hR
    obtain ⟨tv, tr, tt, _⟩ := I.tuple e2
    obtain ⟨u, hu1, hu2⟩ := Vals.get tr e3
    refine item_act L (s := { s with heap := h, toks := tk }) hr.depth (I.nolimit.keeps ext) (ext _ _ objF) ⟨cN, oc, cs, _, rfl, ext _ _ eoc, edat, ename⟩ (tt.keeps ext) hj (x := u) (by simpa using hu1) fun h' tk' ext' => ?_
    obtain ⟨as, rd⟩ := Dp.reads I _ _ _ e4 hu2
    exact ⟨h', tk', rfl, ext', as, rd⟩
  · have hv := each_back hout
    have hz2 : ((bs.mergeSort (dataLe false fun b => toPy (keyAtD j b.2))).map (·.1)).length ≤ sizeLine := by
      rw [List.length_map, List.length_mergeSort]
      rw [List.length_map] at hz
      exact hz
    exact ⟨.ref _, upd H (s.heap.objs.size + 1) (.lst ((bs.mergeSort (dataLe false fun b => toPy (keyAtD j b.2))).map (·.1))), I.laid (t' := tk) ext (Nat.le_succ _) ⟨hz2, out, c, hv, hD⟩, rfl, q _ (I.hok.fresh (Nat.le_succ _))⟩
theorem pe_lamP {c P : Addr} {params : Arguments} {body : Expr} {scope : Scope} {pos : Pos} (TB : LamX.TabB X.base X.mg c P) (hcode : X.env.code = .ref c) (hq : X.env.qual ++ "<lambda>" = lamQ) (hdef : defaultsOf params X.env = ([], [])) (hn : ∀ y ∈ scope.names, y.2 ≠ .free) :
    PE X (.Lambda params body scope pos) (tLamO X P params body scope) := ⟨fun pins s σ H Q I h => lam_lay I TB hcode hq h.1 hdef (fun y hy z => absurd z (hn y hy)) fun f cN H1 s1 I1 sm tm hfn hco => ⟨.ref f, _, I1, rfl, h.2 f cN H1 sm tm hfn hco⟩⟩
theorem repL_get {cl : Cl} {H : Hp} {j : Nat} : ∀ {ds : List D} {xs : List V}, RepL cl H ds xs → j < ds.length → ∃ y, xs[j]? = some y ∧ Rep cl H (ds.getD j .non) y
  | _, _, .nil, h => absurd h (Nat.not_lt_zero _)
  | _, _, .cons (d := d) (v := v) r t, h => by
    cases j with
    | zero => exact ⟨v, rfl, r⟩
    | succ j =>
      obtain ⟨y, e1, e2⟩ := repL_get (j := j) t (by simpa using h)
      exact ⟨y, by simpa using e1, by simpa using e2⟩
theorem se_sortK {E : En} {ks : List Kd} {e : Expr} {g : Sl → R D} {c P : Addr} {j k : Nat} {params : Arguments} {body : Expr} {scope : Scope} {p1 pos kp lpos : Pos} (B : Bl X.mg) (hr : Room (k + 1) X.A) (he : SE X E ks .bor e g) (TB : LamX.TabB X.base X.mg c P) (hT : LamX.TabS E.h P lamQ) (L : ItemLam params body scope j)
    (hj : j < 2 ^ 62 := by decide) (hcode : X.env.code = .ref c := by rfl) (hqq : X.env.qual ++ "<lambda>" = lamQ := by rfl) (hdef : defaultsOf params X.env = ([], []) := by rfl) (hg : Gl X "sorted" := by rfl)
    (hs : starEach (e :: []) X.env = (false, eval e X.env) :: starEach [] X.env := by rfl)
    (hbk : backTo pos (starEach (e :: []) X.env) = (false, eval e X.env) :: backTo pos (starEach [] X.env) := by rfl) (hpl : (backTo pos (starEach (e :: []) X.env)).any (·.1) = false := by rfl)
    (hall : (backToKw pos (keywordEach [⟨some "key", .Lambda params body scope lpos, kp⟩] X.env)).all (·.1.isSome) = true := by rfl) (hnone : (backToKw pos (keywordEach [⟨some "key", .Lambda params body scope lpos, kp⟩] X.env)).any (·.1.isNone) = false := by rfl)
    (hks : (backToKw pos (keywordEach [⟨some "key", .Lambda params body scope lpos, kp⟩] X.env)).filterMap (·.1) = [Str.ofString "key"] := by rfl) :
    SE X E ks (.own none) (.Call (.Name "sorted" p1) [e] [⟨some "key", .Lambda params body scope lpos, kp⟩] pos) (gUn (dSortK j) g) := by
  refine ⟨fun Hs H r σ W Q tk S Po => ?_⟩
  refine we_of (pe_callBK (cr_sortK hr L hj) hg B.sorted bb_sorted (pa_cons pe_we pa_nil hs) (pk_cons (pe_lamP TB hcode hqq hdef fun y hy => (L.own y hy).2) pk_nil) (by decide) (by decide) hbk hpl hall hnone hks) ?_
  refine he.run _ _ _ _ _ _ tk S (Po.imp fun d v Hs1 H1 e1 g1 k1 P1 => ?_)
  unfold dSortK at P1
  cases d <;> first | exact P1.elim | skip
  rename_i ds
  dsimp only at P1
  split at P1
  · rename_i hk
    rw [Bool.and_eq_true, List.all_eq_true] at hk
    obtain ⟨hk0, hk⟩ := hk
    unfold okSort at hk
    rw [Bool.and_eq_true, List.all_eq_true] at hk
    obtain ⟨hk1, hk2⟩ := hk
    refine ⟨(S.grow g1).facts.2.2.2 P hT, fun f cN H2 sm tm hfn hco => ?_⟩
    have e2 : Same H2 (upd H2 f (LamO X f cN params body scope)) := Same.updNew hfn
    have g2 : Grow Hs1 H1 Hs1 (upd H2 f (LamO X f cN params body scope)) := Grow.same g1.sub (sm.trans e2) fun B z => tab_upd hfn B (tm B z)
    obtain ⟨a, xs, rfl, h1, r1⟩ := (k1.rb.grow g2).lstInv g2.sub
    obtain ⟨bs, b1, b2, b3⟩ := RepL.zipV r1
    subst b1
    subst b2
    have hb : ∀ b ∈ bs, shp (keyAtD j b.2) = true ∧ (toPy (keyAtD j b.2)).depth ≤ 60 ∧ ∀ c ∈ bs, alike (toPy (keyAtD j b.2)) (toPy (keyAtD j c.2)) = true := fun b hb => by
      have := hk1 (keyAtD j b.2) (List.mem_map.mpr ⟨b.2, List.mem_map.mpr ⟨b, hb, rfl⟩, rfl⟩)
      simp only [Bool.and_eq_true, decide_eq_true_eq, List.all_eq_true] at this
      exact ⟨this.1.1, this.1.2, fun c hc => this.2 (keyAtD j c.2) (List.mem_map.mpr ⟨c.2, List.mem_map.mpr ⟨c, hc, rfl⟩, rfl⟩)⟩
    refine ⟨a, f, cN, bs, rfl, rfl, upd_same, e2.at _ _ hco (fun ps => codeO_tbl ps), SqL.of h1, fun b hb' => ?_, ?_, ?_, fun p hp => ?_⟩
    · have t1 := hk0 b.2 (List.mem_map.mpr ⟨b, hb', rfl⟩)
      have rb := Rep.same g2.sub _ _ (b3 b hb')
      cases q : b.2 <;> rw [q] at t1 rb <;> first | (cases t1; done) | skip
      rename_i ys
      generalize hv : b.1 = bv at rb
      cases rb with
      | tup at1 rl =>
        have lt : j < ys.length := by simpa [isTupJ] using t1
        obtain ⟨y, f1, f2⟩ := repL_get rl lt
        have hbb := hb b hb'
        rw [q] at hbb
        exact ⟨_, _, y, rfl, .inl (.inl at1), f1, Rep.dp _ _ (SeqAt.canLay_of_shaped hbb.1) f2, hbb.2.1⟩
    · intro d hd d' hd'
      obtain ⟨b, h2, rfl⟩ := List.mem_map.mp hd
      obtain ⟨c, h3, rfl⟩ := List.mem_map.mp hd'
      exact (hb b h2).2.2 c h3
    · rw [Bool.or_eq_true, List.all_eq_true, List.all_eq_true] at hk2
      rcases hk2 with z | z
      · refine .inl fun d hd => ?_
        obtain ⟨b, h2, rfl⟩ := List.mem_map.mp hd
        have := z (keyAtD j b.2) (List.mem_map.mpr ⟨b.2, List.mem_map.mpr ⟨b, h2, rfl⟩, rfl⟩)
        cases q : keyAtD j b.2 <;> rw [q] at this <;> first | (cases this; done) | skip
        rename_i ys
        cases ys with
        | nil => cases this
        | cons y ys => exact ⟨_, _, rfl⟩
      · refine .inr fun d hd => ?_
        obtain ⟨b, h2, rfl⟩ := List.mem_map.mp hd
        have := z (keyAtD j b.2) (List.mem_map.mpr ⟨b.2, List.mem_map.mpr ⟨b, h2, rfl⟩, rfl⟩)
        cases q : keyAtD j b.2 <;> rw [q] at this <;> first | (cases this; done) | exact ⟨(by intro w; cases w), (by intro w u; cases u)⟩
    · have e2 : (bs.mergeSort (dataLe false fun b => toPy (keyAtD j b.2))).map (·.2) = (bs.map (·.2)).mergeSort (leK j) := List.map_mergeSort fun a _ b _ => rfl
      rw [← e2] at P1
      refine (P1.grow g2).finL g2.sub hp (RepL.ofZip fun b hb' => b3 b ?_)
      exact (List.mergeSort_perm bs _).mem_iff.mp hb'
  · exact P1.elim
end
end VL
end

noncomputable section
namespace CW
open PySem PySem.Spec PyProof.Rows L2 VL
def b_look_row_1 : Sl → O := (mSeq (mIf (gTest (gBin dLe (gBin dIdx (gVar 0) (gVar 1)) (gBin dIdx (gVar 0) (gBin dSub (gVar 1) (gC (.int 1))))))
  (mSeq (mRaiseAt "BadRow" (gVar 1))
  mNil)
  mNil)
  mNil)
def m_look_row : Sl → O := (mSeq (mIf (gTest (gBin dGt (gCall fLen (gCons (gVar 0) gNil)) (gC (.int 60))))
  (mSeq (mRaise "TooMany")
  mNil)
  mNil)
  (mSeq (mFor (gRange2 (gC (.int 1)) (gCall fLen (gCons (gVar 0) gNil))) (.one 1) b_look_row_1)
  mNil))
def f_look_row : List D → R D := runF m_look_row 1

def m_share : Sl → O := (mSeq (mRet (gCall fSum (gCons (gComp (gIter (gVar 0)) (.tup [2, 3]) [2, 3] gYes (gCall fMin2 (gCons (gVar 1) (gCons (gVar 2) gNil)))) gNil)))
  mNil)
def f_share : List D → R D := runF m_share 2

def m_mark : Sl → O := (mSeq (mRet (gBin dSub (gVar 2) (gBin dMul (gC (.int 2)) (gCall f_share (gCons (gVar 0) (gCons (gVar 1) gNil))))))
  mNil)
def f_mark : List D → R D := runF m_mark 0

def b_longest_ripe_1 : Sl → O := (mSeq (mIf (gAnd (gTest (gBin dGt (gVar 3) (gVar 2))) (gTest (gBin dEq (gVar 4) (gCall f_mark (gCons (gVar 0) (gCons (gVar 3) (gCons (gVar 1) gNil)))))))
  (mSeq (mSet 2 (gVar 3))
  mNil)
  mNil)
  mNil)
def m_longest_ripe : Sl → O := (mSeq (mSet 2 (gC (.int 0)))
  (mSeq (mFor (gIter (gVar 0)) (.tup [3, 4]) b_longest_ripe_1)
  (mSeq (mRet (gVar 2))
  mNil)))
def f_longest_ripe : List D → R D := runF m_longest_ripe 3

def m_grown : Sl → O := (mSeq (mSet 2 (gCall f_longest_ripe (gCons (gVar 0) (gCons (gBin dSub (gVar 1) (gC (.int 1))) gNil))))
  (mSeq (mSet 3 (gCall fList (gCons (gVar 0) gNil)))
  (mSeq (mIf (gTest (gBin dGt (gVar 2) (gC (.int 0))))
  (mSeq (mRem 3 (gTup (gCons (gVar 2) (gCons (gCall f_mark (gCons (gVar 0) (gCons (gVar 2) (gCons (gBin dSub (gVar 1) (gC (.int 1))) gNil)))) gNil))))
  mNil)
  mNil)
  (mSeq (mSet 4 (gBin dAdd (gBin dAdd (gCall f_share (gCons (gVar 3) (gCons (gBin dAdd (gVar 2) (gC (.int 1))) gNil))) (gVar 2)) (gC (.int 1))))
  (mSeq (mApp 3 (gTup (gCons (gBin dAdd (gVar 2) (gC (.int 1))) (gCons (gBin dSub (gVar 1) (gBin dMul (gC (.int 2)) (gVar 4))) gNil))))
  (mSeq (mRetV 3)
  mNil))))))
def f_grown : List D → R D := runF m_grown 3

def b_list_of_1 : Sl → O := (mSeq (mSet 1 (gCall f_grown (gCons (gVar 1) (gCons (gVar 2) gNil))))
  mNil)
def m_list_of : Sl → O := (mSeq (mSet 1 (gLst gNil))
  (mSeq (mFor (gIter (gVar 0)) (.one 2) b_list_of_1)
  (mSeq (mRet (gCall fSorted (gCons (gVar 1) gNil)))
  mNil)))
def f_list_of : List D → R D := runF m_list_of 2

def m_next_place : Sl → O := (mSeq (mRet (gCall fMax1 (gCons (gComp (gIter (gVar 0)) (.tup [1, 2]) [1, 2] gYes (gBin dAdd (gVar 2) (gBin dMul (gC (.int 2)) (gCall f_share (gCons (gVar 0) (gCons (gVar 1) gNil)))))) gNil)))
  mNil)
def f_next_place : List D → R D := runF m_next_place 2

def m_shortest_ripe : Sl → O := (mSeq (mRet (gCall fMin1 (gCons (gComp (gIter (gVar 0)) (.tup [2, 3]) [2, 3] (gTest (gBin dEq (gVar 3) (gCall f_mark (gCons (gVar 0) (gCons (gVar 2) (gCons (gVar 1) gNil)))))) (gVar 2)) gNil)))
  mNil)
def f_shortest_ripe : List D → R D := runF m_shortest_ripe 2

def m_shrunk : Sl → O := (mSeq (mSet 2 (gCall f_shortest_ripe (gCons (gVar 0) (gCons (gVar 1) gNil))))
  (mSeq (mSet 3 (gCall fList (gCons (gVar 0) gNil)))
  (mSeq (mRem 3 (gTup (gCons (gVar 2) (gCons (gCall f_mark (gCons (gVar 0) (gCons (gVar 2) (gCons (gVar 1) gNil)))) gNil))))
  (mSeq (mIf (gTest (gBin dGt (gVar 2) (gC (.int 1))))
  (mSeq (mSet 4 (gBin dSub (gBin dAdd (gCall f_share (gCons (gVar 3) (gCons (gBin dSub (gVar 2) (gC (.int 1))) gNil))) (gVar 2)) (gC (.int 1))))
  (mSeq (mApp 3 (gTup (gCons (gBin dSub (gVar 2) (gC (.int 1))) (gCons (gBin dSub (gBin dSub (gVar 1) (gC (.int 1))) (gBin dMul (gC (.int 2)) (gVar 4))) gNil))))
  mNil))
  mNil)
  (mSeq (mRetV 3)
  mNil)))))
def f_shrunk : List D → R D := runF m_shrunk 3

def b_stones_of_1 : Sl → O := (mSeq (mSet 2 (gCall f_next_place (gCons (gVar 0) gNil)))
  (mSeq (mApp 1 (gVar 2))
  (mSeq (mSet 0 (gCall f_shrunk (gCons (gVar 0) (gCons (gVar 2) gNil))))
  mNil)))
def m_stones_of : Sl → O := (mSeq (mSet 1 (gLst gNil))
  (mSeq (whileL (gTest (gBin dNe (gVar 0) (gLst gNil))) b_stones_of_1 WB)
  (mSeq (mRet (gUn dRev (gVar 1)))
  mNil)))
def f_stones_of : List D → R D := runF m_stones_of 2

def m_look_niches : Sl → O := (mSeq (mIf (gOr (gTest (gBin dLt (gVar 0) (gC (.int 0)))) (gTest (gBin dGt (gVar 0) (gC (.int 200)))))
  (mSeq (mRaise "BadNumber")
  mNil)
  mNil)
  mNil)
def f_look_niches : List D → R D := runF m_look_niches 0

def b_look_sizes_1 : Sl → O := (mSeq (mIf (gTest (gBin dLt (gBin dIdx (gVar 0) (gVar 1)) (gC (.int 1))))
  (mSeq (mRaiseAt "BadSizes" (gVar 1))
  mNil)
  mNil)
  mNil)
def m_look_sizes : Sl → O := (mSeq (mFor (gRange1 (gCall fLen (gCons (gVar 0) gNil))) (.one 1) b_look_sizes_1)
  (mSeq (mIf (gTest (gBin dGt (gCall fSum (gCons (gVar 0) gNil)) (gC (.int 60))))
  (mSeq (mRaise "TooMany")
  mNil)
  mNil)
  mNil))
def f_look_sizes : List D → R D := runF m_look_sizes 1

def m_room : Sl → O := (mSeq (mRet (gBin dSub (gVar 0) (gBin dMul (gC (.int 2)) (gCall fSum (gCons (gComp (gIter (gVar 1)) (.one 3) [3] gYes (gCall fMin2 (gCons (gVar 2) (gCons (gVar 3) gNil)))) gNil)))))
  mNil)
def f_room : List D → R D := runF m_room 1

def b_chosen_1 : Sl → O := (mSeq (mSet 2 (gBin dFdiv (gBin dMul (gVar 2) (gBin dSub (gBin dAdd (gVar 1) (gVar 3)) (gC (.int 1)))) (gVar 3)))
  mNil)
def m_chosen : Sl → O := (mSeq (mIf (gTest (gBin dLt (gVar 1) (gC (.int 1))))
  (mSeq (mRet (gCall fInt (gCons (gBin dEq (gVar 0) (gC (.int 0))) gNil)))
  mNil)
  mNil)
  (mSeq (mSet 2 (gC (.int 1)))
  (mSeq (mFor (gRange2 (gC (.int 1)) (gBin dAdd (gVar 0) (gC (.int 1)))) (.one 3) b_chosen_1)
  (mSeq (mRet (gVar 2))
  mNil))))
def f_chosen : List D → R D := runF m_chosen 2

def m_groups : Sl → O := (mSeq (mSet 2 (gCall fSorted (gCons (gVar 1) gNil)))
  (mSeq (mRet (gComp (gIter (gUn dSet (gVar 1))) (.one 3) [3] gYes (gTup (gCons (gVar 3) (gCons (gCnt (gVar 2) (gVar 3)) (gCons (gCall f_room (gCons (gVar 0) (gCons (gVar 1) (gCons (gVar 3) gNil)))) gNil))))))
  mNil))
def f_groups : List D → R D := runF m_groups 2

def b_product_1 : Sl → O := (mSeq (mSet 1 (gBin dMul (gVar 1) (gCall f_chosen (gCons (gVar 3) (gCons (gBin dAdd (gVar 4) (gC (.int 1))) gNil)))))
  mNil)
def m_product : Sl → O := (mSeq (mSet 1 (gC (.int 1)))
  (mSeq (mFor (gIter (gVar 0)) (.tup [2, 3, 4]) b_product_1)
  (mSeq (mRet (gVar 1))
  mNil)))
def f_product : List D → R D := runF m_product 4

def b_offsets_numbered_1 : Sl → O := (mSeq (mSet 5 (gBin dSub (gBin dSub (gVar 0) (gCall fLen (gCons (gVar 3) gNil))) (gC (.int 1))))
  (mSeq (mSet 6 (gCall f_chosen (gCons (gVar 5) (gCons (gBin dAdd (gBin dSub (gVar 1) (gVar 4)) (gC (.int 1))) gNil))))
  (mSeq (mIf (gTest (gBin dLt (gVar 2) (gVar 6)))
  (mSeq (mApp 3 (gVar 4))
  mNil)
  (mSeq (mAugI 2 dSub (gVar 6))
  (mSeq (mAugI 4 dIAdd (gC (.int 1)))
  mNil)))
  mNil)))
def m_offsets_numbered : Sl → O := (mSeq (mSet 3 (gLst gNil))
  (mSeq (mSet 4 (gC (.int 0)))
  (mSeq (whileL (gTest (gBin dLt (gCall fLen (gCons (gVar 3) gNil)) (gVar 0))) b_offsets_numbered_1 WB)
  (mSeq (mRetV 3)
  mNil))))
def f_offsets_numbered : List D → R D := runF m_offsets_numbered 4

def b_row_numbered_1 : Sl → O := (mSeq (mUnpack (.tup [5, 6, 7]) (gBin dIdx (gVar 3) (gC (.int 0))))
  (mSeq (mSet 3 (gSl (gVar 3) (gPart (gC (.int 1))) gNoPart))
  (mSeq (mSet 8 (gCall f_product (gCons (gVar 3) gNil)))
  (mSeq (mExt 4 (gComp (gIter (gCall f_offsets_numbered (gCons (gVar 6) (gCons (gVar 7) (gCons (gBin dFdiv (gVar 2) (gVar 8)) gNil))))) (.one 9) [9] gYes (gTup (gCons (gVar 5) (gCons (gVar 9) gNil)))))
  (mSeq (mSet 2 (gBin dMod (gVar 2) (gVar 8)))
  mNil)))))
def m_row_numbered : Sl → O := (mSeq (mExpr (gCall f_look_niches (gCons (gVar 0) gNil)))
  (mSeq (mExpr (gCall f_look_sizes (gCons (gVar 1) gNil)))
  (mSeq (mSet 3 (gCall f_groups (gCons (gVar 0) (gCons (gVar 1) gNil))))
  (mSeq (mIf (gOr (gTest (gBin dLt (gVar 2) (gC (.int 0)))) (gTest (gBin dGe (gVar 2) (gCall f_product (gCons (gVar 3) gNil)))))
  (mSeq (mRaise "BadNumber")
  mNil)
  mNil)
  (mSeq (mSet 4 (gLst gNil))
  (mSeq (whileL (gTest (gBin dNe (gVar 3) (gLst gNil))) b_row_numbered_1 WB)
  (mSeq (mRet (gCall f_stones_of (gCons (gVar 4) gNil)))
  mNil)))))))
def f_row_numbered : List D → R D := runF m_row_numbered 7

def b_number_among_1 : Sl → O := (mSeq (mAugI 2 dIAdd (gCall f_chosen (gCons (gVar 5) (gCons (gBin dAdd (gBin dSub (gVar 1) (gVar 3)) (gC (.int 1))) gNil))))
  (mSeq (mAugI 3 dIAdd (gC (.int 1)))
  mNil))
def b_number_among_2 : Sl → O := (mSeq (mSet 5 (gBin dSub (gBin dSub (gCall fLen (gCons (gVar 0) gNil)) (gVar 4)) (gC (.int 1))))
  (mSeq (whileL (gTest (gBin dLt (gVar 3) (gBin dIdx (gVar 0) (gVar 4)))) b_number_among_1 WB)
  mNil))
def m_number_among : Sl → O := (mSeq (mSet 2 (gC (.int 0)))
  (mSeq (mSet 3 (gC (.int 0)))
  (mSeq (mFor (gRange1 (gCall fLen (gCons (gVar 0) gNil))) (.one 4) b_number_among_2)
  (mSeq (mRet (gVar 2))
  mNil))))
def f_number_among : List D → R D := runF m_number_among 4

def b_is_sober_1 : Sl → O := (mSeq (mIf (gOr (gTest (gBin dLt (gBin dIdx (gVar 1) (gVar 2)) (gBin dAdd (gBin dMul (gC (.int 2)) (gVar 2)) (gC (.int 2))))) (gTest (gBin dGt (gBin dIdx (gVar 1) (gVar 2)) (gVar 0))))
  (mSeq (mRet (gC (.bl false)))
  mNil)
  mNil)
  mNil)
def m_is_sober : Sl → O := (mSeq (mFor (gRange1 (gCall fLen (gCons (gVar 1) gNil))) (.one 2) b_is_sober_1)
  (mSeq (mRet (gC (.bl true)))
  mNil))
def f_is_sober : List D → R D := runF m_is_sober 1

def b_number_of_1 : Sl → O := (mSeq (mSet 8 (gComp (gIter (gVar 2)) (.tup [9, 7]) [9, 7] (gTest (gBin dEq (gVar 9) (gVar 4))) (gVar 7)))
  (mSeq (mSet 3 (gBin dAdd (gBin dMul (gVar 3) (gCall f_chosen (gCons (gVar 5) (gCons (gBin dAdd (gVar 6) (gC (.int 1))) gNil)))) (gCall f_number_among (gCons (gVar 8) (gCons (gVar 6) gNil)))))
  mNil))
def m_number_of : Sl → O := (mSeq (mExpr (gCall f_look_row (gCons (gVar 1) gNil)))
  (mSeq (mExpr (gCall f_look_niches (gCons (gVar 0) gNil)))
  (mSeq (mIf (gNot (gTest (gCall f_is_sober (gCons (gVar 0) (gCons (gVar 1) gNil)))))
  (mSeq (mRaise "BadNumber")
  mNil)
  mNil)
  (mSeq (mSet 2 (gCall f_list_of (gCons (gVar 1) gNil)))
  (mSeq (mSet 3 (gC (.int 0)))
  (mSeq (mFor (gIter (gCall f_groups (gCons (gVar 0) (gCons (gComp (gIter (gVar 2)) (.tup [4, 7]) [4, 7] gYes (gVar 4)) gNil)))) (.tup [4, 5, 6]) b_number_of_1)
  (mSeq (mRet (gVar 3))
  mNil)))))))
def f_number_of : List D → R D := runF m_number_of 8

def b_numbers_L_1 : Sl → O := (mSeq (mIf (gTest (gBin dGt (gVar 5) (gC (.int 0))))
  (mSeq (mApp 2 (gBin dMod (gVar 5) (gC (.int 1013))))
  (mSeq (mSet 5 (gBin dFdiv (gVar 5) (gC (.int 1013))))
  mNil))
  mNil)
  mNil)
def b_numbers_L_2 : Sl → O := (mSeq (mSet 3 (gBin dMod (gBin dAdd (gBin dAdd (gBin dMul (gVar 3) (gC (.int 40014))) (gBin dMod (gVar 4) (gC (.int 999983)))) (gC (.int 29))) (gC (.int 2147483563))))
  (mSeq (mSet 5 (gBin dSub (gVar 4) (gBin dPow (gC (.int 10)) (gC (.int 18)))))
  (mSeq (mIf (gTest (gBin dLt (gVar 5) (gC (.int 0))))
  (mSeq (mApp 2 (gBin dMod (gVar 4) (gC (.int 9967))))
  mNil)
  mNil)
  (mSeq (mFor (gRange1 (gC (.int 60))) (.one 6) b_numbers_L_1)
  mNil))))
def b_numbers_L_3 : Sl → O := (mSeq (mSet 3 (gBin dMod (gBin dAdd (gBin dAdd (gBin dAdd (gBin dMul (gVar 3) (gVar 3)) (gBin dMul (gC (.int 52774)) (gVar 3))) (gBin dMul (gC (.int 13)) (gCall fLen (gCons (gVar 2) gNil)))) (gC (.int 7))) (gC (.int 2147483629))))
  (mSeq (mApp 2 (gBin dMod (gBin dFdiv (gVar 3) (gC (.int 1019))) (gC (.int 9967))))
  mNil))
def m_numbers_L : Sl → O := (mSeq (mSet 2 (gLst gNil))
  (mSeq (mSet 3 (gC (.int 59)))
  (mSeq (mFor (gIter (gSlS (gVar 0) gNoPart (gPart (gC (.int 63))))) (.one 4) b_numbers_L_2)
  (mSeq (whileL (gTest (gBin dLt (gCall fLen (gCons (gVar 2) gNil)) (gVar 1))) b_numbers_L_3 WB)
  (mSeq (mRet (gSl (gVar 2) gNoPart (gPart (gVar 1))))
  mNil)))))
def f_numbers_L : List D → R D := runF m_numbers_L 5

def m_same_L (fs : List D → R D) : Sl → O := (mSeq (mIf (gTest (gUn dIsN (gVar 1)))
  (mSeq (mRet (gUn dIsN (gVar 0)))
  mNil)
  mNil)
  (mSeq (mIf (gTest (gUn dIsLT (gVar 1)))
  (mSeq (mIf (gOr (gTest (gBin dNe (gUn (dIs .list) (gVar 0)) (gUn (dIs .list) (gVar 1)))) (gTest (gBin dNe (gUn (dIs .tuple) (gVar 0)) (gUn (dIs .tuple) (gVar 1)))))
  (mSeq (mRet (gC (.bl false)))
  mNil)
  mNil)
  (mSeq (mRet (vAnd (gBin dEq (gCall fLen (gCons (gVar 0) gNil)) (gCall fLen (gCons (gVar 1) gNil))) (gCall fAll (gCons (gComp (gRange1 (gCall fLen (gCons (gVar 1) gNil))) (.one 2) [2] gYes (gCall fs (gCons (gBin dIdx (gVar 0) (gVar 2)) (gCons (gBin dIdx (gVar 1) (gVar 2)) gNil)))) gNil))))
  mNil))
  mNil)
  (mSeq (mIf (gOr (gTest (gBin dNe (gUn (dIs .bool) (gVar 0)) (gUn (dIs .bool) (gVar 1)))) (gTest (gBin dNe (gUn (dIs .str) (gVar 0)) (gUn (dIs .str) (gVar 1)))))
  (mSeq (mRet (gC (.bl false)))
  mNil)
  mNil)
  (mSeq (mRet (vAnd (gBin dEq (gUn (dIs .int) (gVar 0)) (gUn (dIs .int) (gVar 1))) (gBin dEq (gVar 0) (gVar 1))))
  mNil))))
def f_same_L : Nat → List D → R D
  | 0 => fun _ => .stuck
  | n + 1 => runF (m_same_L (f_same_L n)) 1

def m_lesser_L : Sl → O := (mSeq (mRet (gCall fSum (gCons (gComp (gIter (gVar 0)) (.tup [2, 3]) [2, 3] gYes (gCall fMin2 (gCons (gVar 1) (gCons (gVar 2) gNil)))) gNil)))
  mNil)
def f_lesser_L : List D → R D := runF m_lesser_L 2

def b_list_L_1 : Sl → O := (mSeq (mSet 3 (gComp (gIter (gVar 1)) (.tup [4, 5]) [4, 5] (gTest (gBin dEq (gVar 5) (gBin dSub (gBin dSub (gVar 2) (gC (.int 1))) (gBin dMul (gC (.int 2)) (gCall f_lesser_L (gCons (gVar 1) (gCons (gVar 4) gNil))))))) (gVar 4)))
  (mSeq (mSet 4 (gBin fMaxD (gVar 3) (gC (.int 0))))
  (mSeq (mIf (gTest (gBin dGt (gVar 4) (gC (.int 0))))
  (mSeq (mRem 1 (gTup (gCons (gVar 4) (gCons (gBin dSub (gBin dSub (gVar 2) (gC (.int 1))) (gBin dMul (gC (.int 2)) (gCall f_lesser_L (gCons (gVar 1) (gCons (gVar 4) gNil))))) gNil))))
  mNil)
  mNil)
  (mSeq (mApp 1 (gTup (gCons (gBin dAdd (gVar 4) (gC (.int 1))) (gCons (gC (.int 0)) gNil))))
  (mSeq (mSetI 1 (gUn dNeg (gC (.int 1))) (gTup (gCons (gBin dAdd (gVar 4) (gC (.int 1))) (gCons (gBin dSub (gVar 2) (gBin dMul (gC (.int 2)) (gCall f_lesser_L (gCons (gVar 1) (gCons (gBin dAdd (gVar 4) (gC (.int 1))) gNil))))) gNil))))
  mNil)))))
def m_list_L : Sl → O := (mSeq (mSet 1 (gLst gNil))
  (mSeq (mFor (gIter (gVar 0)) (.one 2) b_list_L_1)
  (mSeq (mRet (gCall fSorted (gCons (gVar 1) gNil)))
  mNil)))
def f_list_L : List D → R D := runF m_list_L 5

def b_sober_L_1 : Sl → O := (mSeq (mAugI 2 dIAdd (gCall fInt (gCons (gBin dIn (gVar 3) (gVar 1)) gNil)))
  (mSeq (mIf (gTest (gBin dGt (gBin dMul (gC (.int 2)) (gVar 2)) (gVar 3)))
  (mSeq (mRet (gC (.bl false)))
  mNil)
  mNil)
  mNil))
def m_sober_L : Sl → O := (mSeq (mSet 2 (gC (.int 0)))
  (mSeq (mFor (gRange2 (gC (.int 1)) (gBin dAdd (gVar 0) (gC (.int 1)))) (.one 3) b_sober_L_1)
  (mSeq (mRet (gCall fAll (gCons (gComp (gIter (gVar 1)) (.one 4) [4] gYes (gChain dLe dLe (gC (.int 1)) (gVar 4) (gVar 0))) gNil)))
  mNil)))
def f_sober_L : List D → R D := runF m_sober_L 3

def m_space_L : Sl → O := (mSeq (mRet (gBin dSub (gVar 0) (gBin dMul (gC (.int 2)) (gCall fSum (gCons (gComp (gIter (gVar 1)) (.one 3) [3] gYes (gCall fMin2 (gCons (gVar 2) (gCons (gVar 3) gNil)))) gNil)))))
  mNil)
def f_space_L : List D → R D := runF m_space_L 1

def b_choose_L_1 : Sl → O := (mSeq (mSet 2 (gBin dFdiv (gBin dMul (gVar 2) (gBin dAdd (gVar 1) (gVar 3))) (gBin dAdd (gVar 3) (gC (.int 1)))))
  mNil)
def m_choose_L : Sl → O := (mSeq (mSet 2 (gC (.int 1)))
  (mSeq (mFor (gRange1 (gVar 0)) (.one 3) b_choose_L_1)
  (mSeq (mRet (gVar 2))
  mNil)))
def f_choose_L : List D → R D := runF m_choose_L 2

def b_count_L_1 : Sl → O := (mSeq (mSet 4 (gCall f_space_L (gCons (gVar 0) (gCons (gVar 1) (gCons (gVar 3) gNil)))))
  (mSeq (mSet 2 (gBin dMul (gVar 2) (gIf (gTest (gBin dLt (gVar 4) (gC (.int 0)))) (gC (.int 0)) (gCall f_choose_L (gCons (gCnt (gVar 1) (gVar 3)) (gCons (gBin dAdd (gVar 4) (gC (.int 1))) gNil))))))
  mNil))
def m_count_L : Sl → O := (mSeq (mSet 2 (gC (.int 1)))
  (mSeq (mFor (gIter (gUn dSet (gVar 1))) (.one 3) b_count_L_1)
  (mSeq (mRet (gVar 2))
  mNil)))
def f_count_L : List D → R D := runF m_count_L 3

def b_law_1 : Sl → O := (mSeq (mSet 3 (gBin dAdd (gSl (gVar 3) (gPart (gC (.int 1))) gNoPart) (gBin dMul (gLst (gCons (gCall fMax2 (gCons (gC (.int 1)) (gCons (gBin dSub (gBin dIdx (gVar 3) (gC (.int 0))) (gC (.int 5))) gNil))) gNil)) (gCall fInt (gCons (gBin dEq (gCall fLen (gCons (gVar 3) gNil)) (gC (.int 1))) gNil)))))
  mNil)
def b_law_2 : Sl → O := (mSeq (mSet 7 (gBin dAdd (gBin dMul (gVar 7) (gC (.int 9967))) (gBin dIdx (gVar 1) (gBin dAdd (gC (.int 24)) (gBin dMod (gBin dAdd (gVar 4) (gBin dMul (gC (.int 3)) (gVar 8))) (gC (.int 16)))))))
  mNil)
def b_law_3 : Sl → O := (mSeq (mSet 7 (gBin dIdx (gVar 1) (gBin dAdd (gC (.int 20)) (gVar 4))))
  (mSeq (mFor (gRange1 (gC (.int 6))) (.one 8) b_law_2)
  (mSeq (mSet 7 (gBin dMod (gVar 7) (gVar 5)))
  (mSeq (mSet 9 (gCall f_row_numbered (gCons (gVar 2) (gCons (gCall fList (gCons (gVar 3) gNil)) (gCons (gVar 7) gNil)))))
  (mSeq (mIf (gOr (gNot (gTest (gCall f_sober_L (gCons (gVar 2) (gCons (gVar 9) gNil))))) (gNot (gTest (gCall (f_same_L 8) (gCons (gCall f_number_of (gCons (gVar 2) (gCons (gCall fList (gCons (gVar 9) gNil)) gNil))) (gCons (gVar 7) gNil))))))
  (mSeq (mRet (gC (.bl false)))
  mNil)
  mNil)
  (mSeq (mApp 6 (gTup (gCons (gVar 7) (gCons (gCall f_list_L (gCons (gVar 9) gNil)) gNil))))
  mNil))))))
def m_law : Sl → O := (mSeq (mSet 1 (gCall f_numbers_L (gCons (gVar 0) (gCons (gC (.int 40)) gNil))))
  (mSeq (mSet 2 (gBin dAdd (gC (.int 41)) (gBin dMod (gBin dIdx (gVar 1) (gC (.int 0))) (gC (.int 160)))))
  (mSeq (mSet 3 (gComp (gRange1 (gBin dAdd (gC (.int 1)) (gBin dMod (gBin dIdx (gVar 1) (gC (.int 2))) (gC (.int 9))))) (.one 4) [4] gYes (gBin dAdd (gC (.int 1)) (gBin dMod (gBin dIdx (gVar 1) (gBin dAdd (gC (.int 3)) (gVar 4))) (gBin dIdx (gLst (gCons (gC (.int 3)) (gCons (gC (.int 7)) (gCons (gC (.int 12)) gNil)))) (gBin dMod (gBin dIdx (gVar 1) (gC (.int 1))) (gC (.int 3))))))))
  (mSeq (whileL (gOr (gTest (gBin dGt (gCall fSum (gCons (gVar 3) gNil)) (gC (.int 60)))) (gTest (gBin dGt (gBin dMul (gC (.int 2)) (gCall fSum (gCons (gVar 3) gNil))) (gVar 2)))) b_law_1 WB)
  (mSeq (mSet 5 (gCall f_count_L (gCons (gVar 2) (gCons (gVar 3) gNil))))
  (mSeq (mSet 6 (gLst gNil))
  (mSeq (mFor (gRange1 (gC (.int 3))) (.one 4) b_law_3)
  (mSeq (mRet (gBin dEq (gUn dSortD (gVar 6)) (gUn (dSortK 1) (gVar 6))))
  mNil))))))))
def f_law : List D → R D := runF m_law 9

theorem dRange2_gen (a b : Nat) (ha : a ≤ 16777216) (h : b ≤ 16777216) : dRange2 (.int (a : Int)) (.int (b : Int)) = .ok ((List.range' a (b - a)).map fun (i : Nat) => D.int i) := by
  dsimp only [dRange2]
  rw [if_pos (by rw [szL_val]; omega), show ((b : Int) - (a : Int)).toNat = b - a by omega]
  unfold rangeD
  rw [List.range'_eq_map_range]
  simp
def Rising (r : List Int) : Prop := r.Pairwise (· < ·)
theorem dIdx_list {ds : List D} {i : Nat} {d : D} (h : ds[i]? = some d) : dIdx (.lst ds) (.int i) = .ok d := by
  dsimp only [dIdx]
  rw [atI_nat h]
theorem int_at {l : List Int} {i : Nat} {v : Int} (h : l[i]? = some v) {j : Int} (hj : j = (i : Int)) : dIdx (.lst (l.map D.int)) (.int j) = .ok (.int v) := by
  subst hj
  refine dIdx_list ?_
  rw [List.getElem?_map, h]
  rfl
theorem int_in {l : List Int} {i : Nat} (h : i < l.length) {j : Int} (hj : j = (i : Int)) : dIdx (.lst (l.map D.int)) (.int j) = .ok (.int l[i]) := int_at (List.getElem?_eq_getElem h) hj

theorem forL_fold {α σ : Type} (F : α → D) (f : σ → α → σ) (R : σ → Sl → Prop) (t : Tg) (mb : Sl → O) : ∀ (l : List α) (s : σ) (r : Sl), R s r → (∀ x ∈ l, ∀ s r, R s r → ∃ xs r', t.un (F x) = .ok xs ∧ mb (setD r t.is xs) = .nx r' ∧ R (f s x) r') → ∃ r', forL t mb (l.map F) r = .nx r' ∧ R (l.foldl f s) r'
  | [], s, r, h, _ => ⟨r, rfl, h⟩
  | x :: l, s, r, h, k => by
    obtain ⟨xs, r1, e1, e2, h1⟩ := k x List.mem_cons_self s r h
    obtain ⟨r', e3, h3⟩ := forL_fold F f R t mb l (f s x) r1 h1 fun y hy => k y (List.mem_cons_of_mem _ hy)
    refine ⟨r', ?_, h3⟩
    rw [← e3]
    show (match t.un (F x) with
      | .ok xs => (match mb (setD r t.is xs) with
        | .nx r' => forL t mb (l.map F) r'
        | o => o)
      | _ => .stuck) = _
    rw [e1]
    dsimp only
    rw [e2]
theorem forL_foldI {α σ : Type} (F : α → D) (f : σ → α → σ) (R : Nat → σ → Sl → Prop) (t : Tg) (mb : Sl → O) : ∀ (l : List α) (n : Nat) (s : σ) (r : Sl), R n s r → (∀ i x, i < l.length → x ∈ l → ∀ s r, R (n + i) s r → ∃ xs r', t.un (F x) = .ok xs ∧ mb (setD r t.is xs) = .nx r' ∧ R (n + i + 1) (f s x) r') → ∃ r', forL t mb (l.map F) r = .nx r' ∧ R (n + l.length) (l.foldl f s) r'
  | [], n, s, r, h, _ => ⟨r, rfl, h⟩
  | x :: l, n, s, r, h, k => by
    obtain ⟨xs, r1, e1, e2, h1⟩ := k 0 x (by simp) List.mem_cons_self s r h
    obtain ⟨r', e3, h3⟩ := forL_foldI F f R t mb l (n + 1) (f s x) r1 h1 fun i y hi hy s r q => by
      have e : n + 1 + i = n + (i + 1) := by omega
      rw [e] at q ⊢
      exact k (i + 1) y (by simp; omega) (List.mem_cons_of_mem _ hy) s r q
    refine ⟨r', ?_, by rw [List.length_cons, show n + (l.length + 1) = n + 1 + l.length by omega]; exact h3⟩
    rw [← e3]
    show (match t.un (F x) with
      | .ok xs => (match mb (setD r t.is xs) with
        | .nx r' => forL t mb (l.map F) r'
        | o => o)
      | _ => .stuck) = _
    rw [e1]
    dsimp only
    rw [e2]
theorem forL_step {t : Tg} {mb : Sl → O} {d : D} {ds : List D} {r r' : Sl} {xs : List D} (h1 : t.un d = .ok xs) (h2 : mb (setD r t.is xs) = .nx r') : forL t mb (d :: ds) r = forL t mb ds r' := by
  show (match t.un d with
      | .ok xs => (match mb (setD r t.is xs) with
        | .nx r' => forL t mb ds r'
        | o => o)
      | _ => .stuck) = _
  rw [h1]
  dsimp only
  rw [h2]
theorem whileL_fin {tc : Sl → R Bool} {mb : Sl → O} {n : Nat} {r : Sl} (h : tc r = .ok false) : whileL tc mb (n + 1) r = .nx r := by
  show onR (tc r) r _ = _
  rw [h]
  rfl
theorem whileL_turn {tc : Sl → R Bool} {mb : Sl → O} {n : Nat} {r r' : Sl} (h : tc r = .ok true) (h2 : mb r = .nx r') : whileL tc mb (n + 1) r = whileL tc mb n r' := by
  show onR (tc r) r _ = _
  rw [h]
  dsimp only [onR]
  rw [if_pos rfl, h2]
theorem dEqB_two (a b : Int × Int) : dEqB (twoD a) (twoD b) = decide (a = b) := by
  show ((a.1 == b.1) && ((a.2 == b.2) && true)) = _
  obtain ⟨a1, a2⟩ := a
  obtain ⟨b1, b2⟩ := b
  by_cases h1 : a1 = b1 <;> by_cases h2 : a2 = b2 <;> simp [h1, h2]
/-- alike as far as it matters -/
def Rc (N : Nat) (a b : List Int) : Prop := a = b ∨ ∃ C a' b', a = C ++ a' ∧ b = C ++ b' ∧ N ≤ C.length
theorem Rc.symm {N : Nat} {a b : List Int} (h : Rc N a b) : Rc N b a := by
  rcases h with h | ⟨C, a', b', h1, h2, h3⟩
  · exact .inl h.symm
  · exact .inr ⟨C, b', a', h2, h1, h3⟩
theorem erase_idx : ∀ (ps : List (Int × Int)) (x : Int × Int), x ∈ ps → ∃ j, (ps.map twoD).findIdx? (fun z => dEqB z (twoD x)) = some j ∧ (ps.map twoD).eraseIdx j = (ps.erase x).map twoD
  | [], x, h => by cases h
  | y :: ps, x, h => by
    rw [List.map_cons, List.findIdx?_cons, dEqB_two, List.erase_cons]
    by_cases e : y = x
    · exact ⟨0, by simp [e], by simp [e]⟩
    · have m : x ∈ ps := by
        rcases List.mem_cons.mp h with z | z
        · exact absurd z.symm e
        · exact z
      obtain ⟨j, e1, e2⟩ := erase_idx ps x m
      refine ⟨j + 1, by simp [e, e1], ?_⟩
      have e' : (y == x) = false := by simpa using e
      rw [e', List.eraseIdx_cons_succ, e2]
      rfl
theorem remL_ok {ps : List (Int × Int)} {x : Int × Int} (h : x ∈ ps) (hz : ps.length ≤ szL) : remL (ps.map twoD) (.tup [.int x.1, .int x.2]) = some ((ps.erase x).map twoD) := by
  obtain ⟨j, e1, e2⟩ := erase_idx ps x h
  have s1 : shp (twoD x) = true := pl_shp (n := 2) (by decide) pl_pair
  have s2 : shp (.lst (ps.map twoD)) = true := pl_shp (n := 3) (by decide) (pl_pairs hz)
  have e0 : remL (ps.map twoD) (twoD x) = some ((ps.erase x).map twoD) := by
    unfold remL
    rw [s1, s2, e1]
    simp [e2]
  exact e0
/-- the item at -1 put anew -/
theorem ixN_last (n : Nat) (h : 0 < n) : ixN n (-1) = some (n - 1) := by
  unfold ixN
  simp
  omega
theorem Rc.drop {N k : Nat} {a b : List Int} (h : Rc N a b) (l : k ≤ N) : Rc (N - k) (a.drop k) (b.drop k) := by
  rcases h with h | ⟨C, a', b', h1, h2, h3⟩
  · exact .inl (by rw [h])
  · refine .inr ⟨C.drop k, a', b', ?_, ?_, by rw [List.length_drop]; omega⟩
    · rw [h1, List.drop_append_of_le_length (by omega)]
    · rw [h2, List.drop_append_of_le_length (by omega)]
theorem cutL_fromG {α : Type} {xs : List α} {k : Nat} {i : Int} (hi : i = (k : Int) := by rfl) : cutL xs (some i) none = xs.drop k := by
  by_cases h : k ≤ xs.length
  · exact cutL_from h hi
  · subst hi
    unfold cutL
    rw [HT.sIx_nat, HT.sIx_none, Nat.min_eq_right (by omega), Nat.sub_self, List.take_zero, List.drop_eq_nil_of_le (by omega)]
theorem ne_nil_two (ps : List (Int × Int)) (hz : ps.length ≤ 1000) : dNe (.lst (ps.map twoD)) (.lst []) = .ok (.bl (decide (ps ≠ []))) := by
  have s1 : shp (.lst (ps.map twoD)) = true := pl_shp (n := 3) (by decide) (pl_pairs (le_szL (by omega)))
  have s2 : shp (.lst ([].map twoD)) = true := pl_shp (n := 3) (by decide) (pl_pairs (le_szL (by decide)))
  have s2' : shp (.lst []) = true := s2
  unfold dNe
  rw [s1, s2']
  cases ps with
  | nil => rfl
  | cons p r => rfl
theorem app_pair (ps : List (Int × Int)) (a b : Int) : ps.map twoD ++ [D.tup [.int a, .int b]] = (ps ++ [(a, b)]).map twoD := by simp [twoD]
theorem mul2 (x : Int) : mulOk 2 x = true := mulOk_left (by decide) (by decide)
theorem set_last (fr : List (Int × Int)) (x y : D) : (fr.map twoD ++ [x]).set fr.length y = fr.map twoD ++ [y] := by
  rw [List.set_append_right _ _ (by simp)]
  simp
theorem ixN_snoc (n : Nat) : ixN (n + 1) (-1) = some n := ixN_last (n + 1) (by omega)
/-- a loop that ends early or looks at all -/
theorem forL_test {α : Type} (F : α → D) (ok : α → Bool) (R : Sl → Prop) (t : Tg) (mb : Sl → O) (d0 : D) : ∀ (l : List α) (r : Sl), R r → (∀ x ∈ l, ∀ r, R r → ∃ xs r', t.un (F x) = .ok xs ∧ R r' ∧ mb (setD r t.is xs) = if ok x then .nx r' else .rt d0 r') →
    ∃ r', R r' ∧ forL t mb (l.map F) r = if l.all ok then .nx r' else .rt d0 r'
  | [], r, h, _ => ⟨r, h, rfl⟩
  | x :: l, r, h, k => by
    obtain ⟨xs, r1, e1, h1, e2⟩ := k x List.mem_cons_self r h
    cases c : ok x with
    | true =>
      rw [c, if_pos rfl] at e2
      obtain ⟨r', h3, e3⟩ := forL_test F ok R t mb d0 l r1 h1 fun y hy => k y (List.mem_cons_of_mem _ hy)
      refine ⟨r', h3, ?_⟩
      rw [List.map_cons, forL_step e1 e2, e3, List.all_cons, c, Bool.true_and]
    | false =>
      rw [c, if_neg (by simp)] at e2
      refine ⟨r1, h1, ?_⟩
      rw [List.all_cons, c, Bool.false_and, if_neg (by simp)]
      show (match t.un (F x) with
        | .ok xs => (match mb (setD r t.is xs) with
          | .nx r' => forL t mb (l.map F) r'
          | o => o)
        | _ => .stuck) = _
      rw [e1]
      dsimp only
      rw [e2]
theorem fSorted_two (ps : List (Int × Int)) : fSorted [.lst (ps.map twoD)] = .ok (.lst ((sortBy ltII ps).map twoD)) := by
  cases ps with
  | nil => rfl
  | cons p r =>
    dsimp only [fSorted]
    have e : intsOf ((p :: r).map twoD) = none := rfl
    rw [e, pairsOf_map]

def choZ (t : Int) : Nat → Int
  | 0 => 1
  | k + 1 => (choZ t k * (t + (k : Int))).fdiv ((k : Int) + 1)
theorem choose_loop (M : D) (t : Int) (h0 : 0 ≤ t) (ht : t ≤ 400) : ∀ (n k : Nat) (a : Option D), k + n ≤ 100 → ∃ a', forL (.one 3) b_choose_L_1 ((List.range' k n).map fun (i : Nat) => D.int i) [some M, some (.int t), some (.int (choZ t k)), a] = .nx [some M, some (.int t), some (.int (choZ t (k + n))), a']
  | 0, k, a, _ => ⟨a, rfl⟩
  | n + 1, k, a, h => by
    obtain ⟨a', e⟩ := choose_loop M t h0 ht n (k + 1) (some (.int (k : Int))) (by omega)
    refine ⟨a', ?_⟩
    rw [show k + (n + 1) = k + 1 + n by omega, ← e, List.range'_succ, List.map_cons]
    refine forL_step (xs := [.int (k : Int)]) rfl ?_
    show b_choose_L_1 [some M, some (.int t), some (.int (choZ t k)), some (.int (k : Int))] = .nx [some M, some (.int t), some (.int ((choZ t k * (t + (k : Int))).fdiv ((k : Int) + 1))), some (.int (k : Int))]
    obtain ⟨j, ej⟩ : ∃ j : Int, j = (k : Int) := ⟨_, rfl⟩
    rw [← ej]
    have m : dMul (.int (choZ t k)) (.int (t + j)) = _ := dMul_ok (mulOk_right (by omega) (by omega))
    have d : dFdiv (.int (choZ t k * (t + j))) (.int (j + 1)) = _ := dFdiv_ok (by omega) (by omega)
    generalize choZ t k = c at *
    simp [b_choose_L_1, m, d, -dMul, -dFdiv]
theorem choose_L_ok (m : Nat) (hm : m ≤ 100) (t : Int) (h0 : 0 ≤ t) (ht : t ≤ 400) : f_choose_L [.int m, .int t] = .ok (.int (choZ t m)) := by
  have d : dRange1 (.int (m : Int)) = _ := dRange1_nat (by omega)
  obtain ⟨a', e⟩ := choose_loop (.int m) t h0 ht m 0 none (by omega)
  rw [Nat.zero_add, ← List.range_eq_range'] at e
  have e' : forL (.one 3) b_choose_L_1 ((List.range m).map fun (i : Nat) => D.int i) [some (.int m), some (.int t), some (.int 1), none] = _ := e
  generalize (List.range m).map (fun (i : Nat) => D.int i) = rr at *
  simp [f_choose_L, m_choose_L, d, e']

/-- stones less empty niches behind s, s itself counted -/
def balN (R : List Int) (s : Int) : Nat → Int
  | 0 => 1
  | d + 1 => balN R s d + (if s + ((d : Int) + 1) ∈ R then 1 else -1)
def Clo (R : List Int) (s n : Int) : Prop := ∃ d : Nat, n = s + d ∧ balN R s d = 0 ∧ ∀ e, e < d → 1 ≤ balN R s e
def lsr (a s : Int) : Int := if a < s then a else s
def share (ps : List (Int × Int)) (s : Int) : Int := (ps.map fun p => if p.1 < s then p.1 else s).sum
theorem share_cons (p : Int × Int) (ps : List (Int × Int)) (s : Int) : share (p :: ps) s = lsr p.1 s + share ps s := by
  simp [share, lsr]
theorem share_app (ps qs : List (Int × Int)) (s : Int) : share (ps ++ qs) s = share ps s + share qs s := by
  simp [share]
theorem share_perm {ps qs : List (Int × Int)} (h : ps.Perm qs) (s : Int) : share ps s = share qs s := by
  induction h with
  | nil => rfl
  | cons x _ ih => rw [share_cons, share_cons, ih]
  | swap x y l => rw [share_cons, share_cons, share_cons, share_cons]; omega
  | trans _ _ h1 h2 => exact h1.trans h2
/-- where a train is ripe -/
def vac (ps : List (Int × Int)) (p : Int × Int) : Int := p.2 + 2 * share ps p.1
def ripes (ps : List (Int × Int)) (q : Int) : List Int := (ps.filter fun p => vac ps p == q).map (·.1)
def longest (ps : List (Int × Int)) (q : Int) : Int := if ripes ps q = [] then 0 else lmax (ripes ps q)
def grow (ps : List (Int × Int)) (p : Int) : List (Int × Int) :=
  (if 0 < longest ps (p - 1) then ps.erase (longest ps (p - 1), p - 1 - 2 * share ps (longest ps (p - 1))) else ps) ++
    [(longest ps (p - 1) + 1, p - 2 * (share (if 0 < longest ps (p - 1) then ps.erase (longest ps (p - 1), p - 1 - 2 * share ps (longest ps (p - 1))) else ps) (longest ps (p - 1) + 1) + longest ps (p - 1) + 1))]
def Posi (ps : List (Int × Int)) : Prop := ∀ p ∈ ps, 1 ≤ p.1
theorem lmax_le : ∀ {l : List Int} {x : Int}, x ∈ l → x ≤ lmax l
  | [], _, h => by cases h
  | [y], x, h => by
    have : x = y := by simpa using h
    subst this
    exact Int.le_refl _
  | y :: z :: r, x, h => by
    unfold lmax
    rcases List.mem_cons.mp h with e | h
    · subst e; exact Int.le_max_left _ _
    · exact Int.le_trans (lmax_le h) (Int.le_max_right _ _)
theorem mem_ripes {ps : List (Int × Int)} {q s : Int} : s ∈ ripes ps q ↔ (s, q - 2 * share ps s) ∈ ps := by
  constructor
  · intro h
    obtain ⟨p, hp, e⟩ := List.mem_map.mp h
    obtain ⟨h1, h2⟩ := List.mem_filter.mp hp
    have h3 : vac ps p = q := by simpa using h2
    unfold vac at h3
    have : p = (s, q - 2 * share ps s) := by
      subst e
      exact Prod.ext rfl (by show p.2 = _; omega)
    rw [← this]; exact h1
  · intro h
    refine List.mem_map.mpr ⟨_, List.mem_filter.mpr ⟨h, ?_⟩, rfl⟩
    have : vac ps (s, q - 2 * share ps s) = q := by unfold vac; show q - 2 * share ps s + 2 * share ps s = q; omega
    simpa using this
theorem lmax_mem : ∀ {l : List Int}, l ≠ [] → lmax l ∈ l
  | [], h => absurd rfl h
  | [x], _ => by simp [lmax]
  | x :: y :: r, _ => by
    have ih := lmax_mem (l := y :: r) (by simp)
    unfold lmax
    rcases Int.le_total x (lmax (y :: r)) with h | h
    · rw [Int.max_eq_right h]; exact List.mem_cons_of_mem _ ih
    · rw [Int.max_eq_left h]; exact List.mem_cons_self
theorem longest_nonneg {ps : List (Int × Int)} (h : Posi ps) (q : Int) : 0 ≤ longest ps q := by
  unfold longest
  split
  · exact Int.le_refl _
  · rename_i n
    have := h _ (mem_ripes.mp (lmax_mem n))
    have : 1 ≤ lmax (ripes ps q) := this
    omega
theorem longest_mem {ps : List (Int × Int)} {q : Int} (c : 0 < longest ps q) : (longest ps q, q - 2 * share ps (longest ps q)) ∈ ps := by
  have n : ripes ps q ≠ [] := fun z => by
    unfold longest at c
    rw [if_pos z] at c
    omega
  have e : longest ps q = lmax (ripes ps q) := by unfold longest; rw [if_neg n]
  have m := mem_ripes.mp (lmax_mem n)
  rw [← e] at m
  exact m
def zst (s o : Int) : List (Int × Int) := if 0 < s then [(s, o)] else []
theorem share_z {s o i : Int} (hs : 0 ≤ s) (hi : 0 ≤ i) : share (zst s o) i = lsr s i := by
  unfold zst
  by_cases h : 0 < s
  · rw [if_pos h, share_cons]
    simp [share]
  · rw [if_neg h]
    unfold lsr
    simp [share]
    split <;> omega
/-- a train of size s (0: none) grows at q; f what its mark is put forward by -/
structure Gro (f : Int → Int) (M : List (Int × Int)) (q s : Int) (R M' : List (Int × Int)) : Prop where
  s0 : 0 ≤ s
  m : M.Perm (zst s (q - 1 + f s - 2 * share M s) ++ R)
  m' : M'.Perm ((s + 1, q + f (s + 1) - 2 - 2 * share M (s + 1)) :: R)
  top : ∀ p ∈ M, s < p.1 → vac M p ≠ q - 1 + f p.1
theorem vac_perm {M N : List (Int × Int)} (h : M.Perm N) (p : Int × Int) : vac M p = vac N p := by
  unfold vac
  rw [share_perm h]
def Stk (R : List Int) : Nat → List Int → Int → Prop
  | _, [], _ => True
  | k, s :: T, t => (∃ d : Nat, t = s + d ∧ balN R s d = (k : Int) + 1 ∧ ∀ e, e ≤ d → 1 ≤ balN R s e) ∧ Stk R (k + 1) T t
theorem Stk.new {R : List Int} {p : Int} {T : List Int} (h : Stk R 1 T p) : Stk R 0 (p :: T) p := ⟨⟨0, by omega, rfl, fun e he => by
  have : e = 0 := by omega
  rw [this]
  exact Int.le_refl 1⟩, h⟩
abbrev Run := Bool × List Int
/-- two runs alike, N places deep when they are empty ones -/
def R1 (N : Nat) (p q : Run) : Prop := p.1 = q.1 ∧ (p.1 = true → p.2 = q.2) ∧ Rc N p.2 q.2
theorem R1.refl (N : Nat) (p : Run) : R1 N p p := ⟨rfl, fun _ => rfl, .inl rfl⟩
section
variable {f : Int → Int} {M M' N N' R R' E : List (Int × Int)} {q s t : Int}
theorem Gro.share (g : Gro f M q s R M') {i : Int} (hi : 0 ≤ i) : CW.share M' i = CW.share M i + (if s < i then 1 else 0) := by
  have h0 := g.s0
  have a := share_perm g.m' i
  have b := share_perm g.m i
  rw [share_cons] at a
  rw [share_app, share_z h0 hi] at b
  have a' : CW.share M' i = lsr (s + 1) i + CW.share R i := a
  rw [a', b]
  unfold lsr
  split <;> split <;> omega
theorem Gro.perm (g : Gro f M q s R M') (h : M.Perm N) (h' : M'.Perm N') : Gro f N q s R N' where
  s0 := g.s0
  m := by rw [← share_perm h]; exact h.symm.trans g.m
  m' := by rw [← share_perm h]; exact h'.symm.trans g.m'
  top := fun p hp hs => by rw [← vac_perm h]; exact g.top p (h.mem_iff.mpr hp) hs
theorem Gro.new (g : Gro f M q s R M') : (s + 1, q + f (s + 1) - 2 - 2 * CW.share M (s + 1)) ∈ M' ∧ vac M' (s + 1, q + f (s + 1) - 2 - 2 * CW.share M (s + 1)) = q + f (s + 1) := by
  have h0 := g.s0
  refine ⟨g.m'.mem_iff.mpr List.mem_cons_self, ?_⟩
  unfold vac
  rw [g.share (i := s + 1) (by omega), if_pos (by omega)]
  show _ - 2 - 2 * CW.share M (s + 1) + 2 * (CW.share M (s + 1) + 1) = _
  omega
theorem Gro.old (g : Gro f M q s R M') {p : Int × Int} (hp : p ∈ M') (h1 : 0 ≤ p.1) : p = (s + 1, q + f (s + 1) - 2 - 2 * CW.share M (s + 1)) ∨ p ∈ R ∧ p ∈ M ∧ vac M' p = vac M p + (if s < p.1 then 2 else 0) := by
  rcases List.mem_cons.mp (g.m'.mem_iff.mp hp) with e | hr
  · exact .inl e
  · refine .inr ⟨hr, g.m.mem_iff.mpr (List.mem_append_right _ hr), ?_⟩
    unfold vac
    rw [g.share h1]
    split <;> omega
theorem Gro.picked (g : Gro f M q s R M') (hs : 0 < s) : (s, q - 1 + f s - 2 * CW.share M s) ∈ M ∧ vac M (s, q - 1 + f s - 2 * CW.share M s) = q - 1 + f s := by
  refine ⟨g.m.mem_iff.mpr (List.mem_append_left _ (by unfold zst; rw [if_pos hs]; exact List.mem_cons_self)), ?_⟩
  unfold vac
  show q - 1 + f s - 2 * CW.share M s + 2 * CW.share M s = _
  omega
theorem Gro.posi (g : Gro f M q s R M') (h : Posi M) : Posi M' := fun p hp => by
  rcases List.mem_cons.mp (g.m'.mem_iff.mp hp) with e | hr
  · rw [e]
    have := g.s0
    show 1 ≤ s + 1
    omega
  · exact h p (g.m.mem_iff.mpr (List.mem_append_right _ hr))
theorem Gro.uniq (g : Gro f M q s R M') (g2 : Gro f N q t R' N') (h : M.Perm N) : s = t ∧ M'.Perm N' := by
  have a := g.s0
  have b := g2.s0
  have st : s = t := by
    rcases Int.lt_trichotomy s t with z | z | z
    · obtain ⟨p1, p2⟩ := g2.picked (by omega)
      exact absurd ((vac_perm h _).trans p2) (g.top _ (h.mem_iff.mpr p1) z)
    · exact z
    · obtain ⟨p1, p2⟩ := g.picked (by omega)
      exact absurd ((vac_perm h _).symm.trans p2) (g2.top _ (h.mem_iff.mp p1) z)
  subst st
  refine ⟨rfl, ?_⟩
  have e : ∀ i, CW.share M i = CW.share N i := fun i => share_perm h i
  have p1 : (zst s (q - 1 + f s - 2 * CW.share N s) ++ R).Perm (zst s (q - 1 + f s - 2 * CW.share N s) ++ R') := by
    have w := g.m.symm.trans (h.trans g2.m)
    rw [e s] at w
    exact w
  have p2 : R.Perm R' := (List.perm_append_left_iff _).mp p1
  have w := g.m'
  rw [e (s + 1)] at w
  exact w.trans ((List.Perm.cons _ p2).trans g2.m'.symm)
def shf (f : Int → Int) (ps : List (Int × Int)) : List (Int × Int) := ps.map fun p => (p.1, p.2 + f p.1)
theorem share_shf (f : Int → Int) (ps : List (Int × Int)) (i : Int) : CW.share (shf f ps) i = CW.share ps i := by
  unfold CW.share shf
  rw [List.map_map]
  rfl
theorem shf_perm (h : M.Perm N) : (shf f M).Perm (shf f N) := h.map _
theorem Gro.shift (g : Gro (fun _ => 0) M q s R M') : Gro f (shf f M) q s (shf f R) (shf f M') where
  s0 := g.s0
  m := by
    rw [share_shf]
    have w := shf_perm (f := f) g.m
    have e : shf f (zst s (q - 1 + 0 - 2 * CW.share M s) ++ R) = zst s (q - 1 + f s - 2 * CW.share M s) ++ shf f R := by
      unfold shf zst
      split
      · simp
        omega
      · simp
    rw [e] at w
    exact w
  m' := by
    rw [share_shf]
    have w := shf_perm (f := f) g.m'
    have e : shf f ((s + 1, q + 0 - 2 - 2 * CW.share M (s + 1)) :: R) = (s + 1, q + f (s + 1) - 2 - 2 * CW.share M (s + 1)) :: shf f R := by
      unfold shf
      simp
      omega
    rw [e] at w
    exact w
  top := fun p hp hs => by
    obtain ⟨p0, h0, rfl⟩ := List.mem_map.mp hp
    have := g.top p0 h0 hs
    unfold vac at this ⊢
    rw [share_shf]
    dsimp only at this ⊢
    omega
theorem gro_grow (h : Posi M) (q : Int) : ∃ R, Gro (fun _ => 0) M q (longest M (q - 1)) R (grow M q) := by
  have n0 := longest_nonneg h (q - 1)
  have top : ∀ p ∈ M, longest M (q - 1) < p.1 → vac M p ≠ q - 1 + 0 := fun p hp hs e => by
    have m : p.1 ∈ ripes M (q - 1) := List.mem_map.mpr ⟨p, List.mem_filter.mpr ⟨hp, by rw [e]; simp⟩, rfl⟩
    have n : ripes M (q - 1) ≠ [] := fun w => by rw [w] at m; cases m
    have : p.1 ≤ longest M (q - 1) := by
      unfold longest
      rw [if_neg n]
      exact lmax_le m
    omega
  have lss : ∀ a : Int, lsr a (a + 1) = a := fun a => by unfold lsr; split <;> omega
  by_cases c : 0 < longest M (q - 1)
  · have pc := List.perm_cons_erase (longest_mem c)
    have sh : CW.share M (longest M (q - 1) + 1) = longest M (q - 1) + CW.share (M.erase (longest M (q - 1), q - 1 - 2 * CW.share M (longest M (q - 1)))) (longest M (q - 1) + 1) := by
      rw [share_perm pc, share_cons, lss]
    have eg : grow M q = M.erase (longest M (q - 1), q - 1 - 2 * CW.share M (longest M (q - 1))) ++ [(longest M (q - 1) + 1, q - 2 * (CW.share (M.erase (longest M (q - 1), q - 1 - 2 * CW.share M (longest M (q - 1)))) (longest M (q - 1) + 1) + longest M (q - 1) + 1))] := by
      unfold grow
      rw [if_pos c]
    refine ⟨M.erase (longest M (q - 1), q - 1 - 2 * CW.share M (longest M (q - 1))), ⟨n0, ?_, ?_, top⟩⟩
    · unfold zst
      rw [if_pos c, show q - 1 + (0 : Int) - 2 * CW.share M (longest M (q - 1)) = q - 1 - 2 * CW.share M (longest M (q - 1)) by omega]
      exact pc
    · rw [eg]
      generalize longest M (q - 1) = L at *
      generalize M.erase (L, q - 1 - 2 * CW.share M L) = fr at *
      rw [sh, show q - 2 * (CW.share fr (L + 1) + L + 1) = q + 0 - 2 - 2 * (L + CW.share fr (L + 1)) by omega]
      exact List.perm_append_comm
  · have z : longest M (q - 1) = 0 := by omega
    refine ⟨M, ⟨n0, ?_, ?_, top⟩⟩
    · unfold zst
      rw [if_neg c]
      exact List.Perm.refl _
    · unfold grow
      rw [if_neg c, z, show q - 2 * (CW.share M (0 + 1) + 0 + 1) = q + 0 - 2 - 2 * CW.share M (0 + 1) by omega]
      exact List.perm_append_comm
end
theorem Clo.uniq {R : List Int} {s n m : Int} (a : Clo R s n) (b : Clo R s m) : n = m := by
  obtain ⟨d, rfl, h1, h2⟩ := a
  obtain ⟨e, rfl, g1, g2⟩ := b
  rcases Nat.lt_trichotomy d e with z | z | z
  · have := g2 d z; omega
  · rw [z]
  · have := h2 e z; omega
def chosenZ (m : Nat) (t : Int) : Int := if t < 1 then (if m = 0 then 1 else 0) else choZ t m
theorem choZ_bd (t : Int) (h0 : 0 ≤ t) (h1 : t ≤ 400) : ∀ k : Nat, k ≤ 100 → 0 ≤ choZ t k ∧ choZ t k ≤ 512 ^ k
  | 0, _ => ⟨by show (0 : Int) ≤ 1; decide, by show (1 : Int) ≤ 512 ^ 0; decide⟩
  | k + 1, h => by
    obtain ⟨a, b⟩ := choZ_bd t h0 h1 k (by omega)
    show 0 ≤ (choZ t k * (t + (k : Int))).fdiv ((k : Int) + 1) ∧ (choZ t k * (t + (k : Int))).fdiv ((k : Int) + 1) ≤ 512 ^ (k + 1)
    rw [Int.fdiv_eq_ediv_of_nonneg _ (by omega)]
    have p : 0 ≤ choZ t k * (t + (k : Int)) := Int.mul_nonneg a (by omega)
    refine ⟨Int.ediv_nonneg p (by omega), Int.le_trans (Int.ediv_le_self _ p) ?_⟩
    rw [Int.pow_succ]
    exact Int.mul_le_mul b (by omega) (by omega) (Int.le_trans a b)
theorem chosenZ_bd (m : Nat) (t : Int) (hm : m ≤ 100) (ht : t ≤ 400) : 0 ≤ chosenZ m t ∧ chosenZ m t ≤ 512 ^ m := by
  unfold chosenZ
  split
  · split
    · rename_i h; subst h; exact ⟨by decide, by decide⟩
    · exact ⟨by decide, Int.le_of_lt (Int.pow_pos (by decide))⟩
  · exact choZ_bd t (by omega) ht m hm
theorem small600 {x : Int} {k : Nat} (h0 : 0 ≤ x) (h : x ≤ 512 ^ k) (hk : k ≤ 200) : x.natAbs < 2 ^ 2000 := by
  have a : x.natAbs ≤ 512 ^ k := by
    have e : ((512 ^ k : Nat) : Int) = (512 : Int) ^ k := by rw [Int.natCast_pow]; rfl
    omega
  exact Nat.lt_of_le_of_lt (Nat.le_trans a (Nat.pow_le_pow_right (by decide) hk)) (by decide +kernel : 512 ^ 200 < 2 ^ 2000)
def roomZ (n : Int) (ss : List Int) (s : Int) : Int := n - 2 * (ss.map fun o => if o < s then o else s).sum
/-- sizes that may be -/
def Siz (ss : List Int) : Prop := (∀ s ∈ ss, 1 ≤ s) ∧ ss.sum ≤ 60
theorem room_le (n : Int) (ss : List Int) (s : Int) (h : ∀ o ∈ ss, 1 ≤ o) (hs : 1 ≤ s) : roomZ n ss s ≤ n := by
  unfold roomZ
  have : 0 ≤ (ss.map fun o => if o < s then o else s).sum := by
    induction ss with
    | nil => simp
    | cons x ss ih =>
      have a := ih fun o ho => h o (List.mem_cons_of_mem _ ho)
      have b := h x List.mem_cons_self
      rw [List.map_cons, List.sum_cons]
      split <;> omega
  omega
theorem mins_ok (ss : List Int) (s : Int) (a b : Option D) (x : Option D) : gComp (gIter (gVar 1)) (.one 3) [3] gYes (gCall fMin2 (VL.gCons (gVar 2) (VL.gCons (gVar 3) VL.gNil))) [a, some (.lst (ss.map D.int)), some (.int s), x] = .ok (.lst ((ss.map fun o => if o < s then o else s).map D.int)) := by
  have z := gComp_map (gi := gIter (gVar 1)) (t := .one 3) (vs := [3]) (tt := gYes) (ge := gCall fMin2 (VL.gCons (gVar 2) (VL.gCons (gVar 3) VL.gNil))) (r := [a, some (.lst (ss.map D.int)), some (.int s), x]) (l := ss) (F := D.int) (G := fun o => D.int (if o < s then o else s)) rfl fun v _ => by simp [gTurn]
  rw [z, List.map_map]
  rfl
theorem space_L_ok (n : Int) (ss : List Int) (s : Int) : f_space_L [.int n, .lst (ss.map D.int), .int s] = .ok (.int (roomZ n ss s)) := by
  have e := mins_ok ss s (some (.int n)) none none
  have sm : fSum [.lst ((ss.map fun o => if o < s then o else s).map D.int)] = .ok (.int (ss.map fun o => if o < s then o else s).sum) := by simp only [fSum, intsOf_map]
  unfold roomZ
  have m2 := mul2 (ss.map fun o => if o < s then o else s).sum
  generalize (ss.map fun o => if o < s then o else s).sum = q at *
  generalize (ss.map fun o => if o < s then o else s).map D.int = qq at *
  generalize ss.map D.int = sl at *
  simp [f_space_L, m_space_L, e, sm, m2]

theorem count_loop (n : Int) (ss : List Int) (hS : Siz ss) (hn : n ≤ 200) : ∀ (L : List Int) (acc : Int) (k : Nat) (a b : Option D), 0 ≤ acc → acc ≤ 512 ^ k → k + (L.map fun s => ss.count s).sum ≤ 60 → (∀ s ∈ L, s ∈ ss) →
    ∃ a' b', forL (.one 3) b_count_L_1 (L.map D.int) [some (.int n), some (.lst (ss.map D.int)), some (.int acc), a, b] = .nx [some (.int n), some (.lst (ss.map D.int)), some (.int (L.foldl (fun acc s => acc * chosenZ (ss.count s) (roomZ n ss s + 1)) acc)), a', b']
  | [], acc, k, a, b, _, _, _, _ => ⟨a, b, rfl⟩
  | s :: L, acc, k, a, b, h0, h1, h2, h3 => by
    rw [List.map_cons, List.sum_cons] at h2
    have hs := h3 s List.mem_cons_self
    have rl := room_le n ss s hS.1 (hS.1 s hs)
    obtain ⟨c0, c1⟩ := chosenZ_bd (ss.count s) (roomZ n ss s + 1) (by omega) (by omega)
    have cp : 0 < ss.count s := List.count_pos_iff.mpr hs
    have pb : acc * chosenZ (ss.count s) (roomZ n ss s + 1) ≤ 512 ^ (k + ss.count s) := by
      rw [Int.pow_add]
      exact Int.mul_le_mul h1 c1 c0 (Int.le_trans h0 h1)
    obtain ⟨a', b', e⟩ := count_loop n ss hS hn L (acc * chosenZ (ss.count s) (roomZ n ss s + 1)) (k + ss.count s) (some (.int s)) (some (.int (roomZ n ss s))) (Int.mul_nonneg h0 c0) pb (by omega) fun x hx => h3 x (List.mem_cons_of_mem _ hx)
    refine ⟨a', b', ?_⟩
    rw [List.foldl_cons, ← e, List.map_cons]
    refine forL_step (xs := [.int s]) rfl ?_
    show b_count_L_1 [some (.int n), some (.lst (ss.map D.int)), some (.int acc), some (.int s), b] = .nx [some (.int n), some (.lst (ss.map D.int)), some (.int (acc * chosenZ (ss.count s) (roomZ n ss s + 1))), some (.int s), some (.int (roomZ n ss s))]
    have sp := space_L_ok n ss s
    have mm : dMul (.int acc) (.int (chosenZ (ss.count s) (roomZ n ss s + 1))) = _ := dMul_ok (mulOk_wide (small600 h0 h1 (by omega)) (small600 c0 c1 (by omega)))
    have eg : ∀ x y z, gCnt (gVar 1) (gVar 3) [x, some (.lst (ss.map D.int)), y, some (.int s), z] = .ok (.int (ss.count s : Nat)) := fun x y z => by
      unfold gCnt
      show (match intsOf (ss.map D.int) with
        | some ns => R.ok (D.int (ns.count s : Nat))
        | none => .stuck) = _
      rw [intsOf_map]
    by_cases neg : roomZ n ss s < 0
    · have cz : chosenZ (ss.count s) (roomZ n ss s + 1) = 0 := by
        unfold chosenZ
        rw [if_pos (by omega), if_neg (by omega)]
      rw [cz] at mm ⊢
      generalize roomZ n ss s = q at *
      generalize ss.map D.int = sl at *
      simp [b_count_L_1, sp, neg, mm, -dMul]
    · have ch := choose_L_ok (ss.count s) (by omega) (roomZ n ss s + 1) (by omega) (by omega)
      have cz : chosenZ (ss.count s) (roomZ n ss s + 1) = choZ (roomZ n ss s + 1) (ss.count s) := by
        unfold chosenZ
        rw [if_neg (by omega)]
      rw [cz] at mm ⊢
      generalize choZ (roomZ n ss s + 1) (ss.count s) = cc at *
      generalize roomZ n ss s = q at *
      generalize ss.count s = cn at *
      generalize ss.map D.int = sl at *
      simp [b_count_L_1, sp, neg, eg, ch, mm, -dMul]
def groupsZ (n : Int) (ss : List Int) : List (Int × Nat × Int) := (sortSet ss).map fun s => (s, ss.count s, roomZ n ss s)
theorem set_ok (ss : List Int) (hz : ss.length ≤ 63) : dSet (.lst (ss.map D.int)) = .ok (.lst ((sortSet ss).map D.int)) := by
  dsimp only [dSet]
  rw [intsOf_map]
  dsimp only
  rw [if_pos hz]
def prodZ (gs : List (Int × Nat × Int)) : Int := gs.foldl (fun acc g => acc * chosenZ g.2.1 (g.2.2 + 1)) 1
theorem nodup_lt : ∀ {l : List Int}, l.Pairwise (· < ·) → l.Nodup := fun h => h.imp fun {a b} q => by omega
theorem sum0 : ∀ L : List Int, (L.map fun _ => 0).sum = 0
  | [] => rfl
  | x :: L => by rw [List.map_cons, List.sum_cons, sum0 L]
theorem count_sum : ∀ (ss L : List Int), L.Nodup → (L.map fun s => ss.count s).sum ≤ ss.length
  | [], L, _ => by
    have : (L.map fun s => ([] : List Int).count s) = L.map fun _ => 0 := by simp
    rw [this, sum0]
    exact Nat.zero_le _
  | x :: ss, L, h => by
    have ih := count_sum ss L h
    have e : (L.map fun s => (x :: ss).count s).sum = (L.map fun s => ss.count s).sum + L.count x := by
      clear ih h
      induction L with
      | nil => rfl
      | cons y L ih =>
        rw [List.map_cons, List.sum_cons, List.map_cons, List.sum_cons, ih, List.count_cons, List.count_cons]
        have : (x == y) = (y == x) := by rw [Bool.eq_iff_iff]; simp; exact eq_comm
        rw [this]
        omega
    have c : L.count x ≤ 1 := List.nodup_iff_count.mp h x
    rw [e, List.length_cons]
    omega
theorem Siz.sum_ge : ∀ {ss : List Int}, (∀ s ∈ ss, 1 ≤ s) → (ss.length : Int) ≤ ss.sum
  | [], _ => by simp
  | x :: ss, h => by
    have a := h x List.mem_cons_self
    have b := Siz.sum_ge (ss := ss) fun s hs => h s (List.mem_cons_of_mem _ hs)
    rw [List.length_cons, List.sum_cons]
    omega
theorem Siz.len {ss : List Int} (h : Siz ss) : ss.length ≤ 60 := by
  have := Siz.sum_ge h.1
  have := h.2
  omega
theorem count_L_ok (n : Int) (ss : List Int) (hS : Siz ss) (hn : n ≤ 200) : f_count_L [.int n, .lst (ss.map D.int)] = .ok (.int (prodZ (groupsZ n ss))) := by
  have hl := hS.len
  have es := set_ok ss (by omega)
  have cs := count_sum ss (sortSet ss) (nodup_lt (sortSet_lt ss))
  obtain ⟨a, b, e⟩ := count_loop n ss hS hn (sortSet ss) 1 0 none none (by decide) (by decide) (by omega) fun s hs => (sortSet_mem ss s).mp hs
  have ep : prodZ (groupsZ n ss) = (sortSet ss).foldl (fun acc s => acc * chosenZ (ss.count s) (roomZ n ss s + 1)) 1 := by
    unfold prodZ groupsZ
    rw [List.foldl_map]
  rw [ep]
  generalize (sortSet ss).foldl (fun acc s => acc * chosenZ (ss.count s) (roomZ n ss s + 1)) 1 = q at *
  generalize (sortSet ss).map D.int = so at *
  generalize ss.map D.int = sl at *
  simp [f_count_L, m_count_L, es, e]
theorem sum_perm {a b : List Int} (h : a.Perm b) : a.sum = b.sum := by
  induction h with
  | nil => rfl
  | cons x _ ih => rw [List.sum_cons, List.sum_cons, ih]
  | swap x y l => simp only [List.sum_cons]; omega
  | trans _ _ h1 h2 => rw [h1, h2]
theorem chosen_loop (M : D) (t : Int) (h0 : 0 ≤ t) (ht : t ≤ 400) : ∀ (n k : Nat) (a : Option D), k + n ≤ 100 → ∃ a', forL (.one 3) b_chosen_1 ((List.range' (k + 1) n).map fun (i : Nat) => D.int i) [some M, some (.int t), some (.int (choZ t k)), a] = .nx [some M, some (.int t), some (.int (choZ t (k + n))), a']
  | 0, k, a, _ => ⟨a, rfl⟩
  | n + 1, k, a, h => by
    obtain ⟨a', e⟩ := chosen_loop M t h0 ht n (k + 1) (some (.int ((k + 1 : Nat) : Int))) (by omega)
    refine ⟨a', ?_⟩
    rw [show k + (n + 1) = k + 1 + n by omega, ← e, List.range'_succ, List.map_cons]
    refine forL_step (xs := [.int ((k + 1 : Nat) : Int)]) rfl ?_
    show b_chosen_1 [some M, some (.int t), some (.int (choZ t k)), some (.int ((k + 1 : Nat) : Int))] = .nx [some M, some (.int t), some (.int ((choZ t k * (t + (k : Int))).fdiv ((k : Int) + 1))), some (.int ((k + 1 : Nat) : Int))]
    have hj : ((k + 1 : Nat) : Int) = (k : Int) + 1 := by omega
    rw [hj]
    obtain ⟨j, ej⟩ : ∃ j : Int, j = (k : Int) + 1 := ⟨_, rfl⟩
    rw [← ej, show t + (k : Int) = t + j - 1 by omega]
    have m : dMul (.int (choZ t k)) (.int (t + j - 1)) = _ := dMul_ok (mulOk_right (by omega) (by omega))
    have d : dFdiv (.int (choZ t k * (t + j - 1))) (.int j) = _ := dFdiv_ok (by omega) (by omega)
    generalize choZ t k = c at *
    simp [b_chosen_1, m, d, -dMul, -dFdiv]
theorem chosen_ok (m : Nat) (hm : m ≤ 100) (t : Int) (ht : t ≤ 400) : f_chosen [.int m, .int t] = .ok (.int (chosenZ m t)) := by
  unfold chosenZ
  by_cases c : t < 1
  · rw [if_pos c]
    by_cases z : m = 0
    · subst z
      have : t < 1 := c
      simp [f_chosen, m_chosen, c]
    · rw [if_neg z]
      simp [f_chosen, m_chosen, c, z]
  · rw [if_neg c]
    have d : dRange2 (.int 1) (.int ((m : Int) + 1)) = .ok ((List.range' 1 m).map fun (i : Nat) => D.int i) := dRange2_gen 1 (m + 1) (by decide) (by omega)
    obtain ⟨a', e⟩ := chosen_loop (.int m) t (by omega) ht m 0 none (by omega)
    rw [Nat.zero_add] at e
    have e' : forL (.one 3) b_chosen_1 ((List.range' 1 m).map fun (i : Nat) => D.int i) [some (.int m), some (.int t), some (.int 1), none] = _ := e
    generalize (List.range' 1 m).map (fun (i : Nat) => D.int i) = rr at *
    simp [f_chosen, m_chosen, c, d, e']
theorem room_ok (n : Int) (ss : List Int) (s : Int) : f_room [.int n, .lst (ss.map D.int), .int s] = .ok (.int (roomZ n ss s)) := by
  have e := mins_ok ss s (some (.int n)) none none
  have sm : fSum [.lst ((ss.map fun o => if o < s then o else s).map D.int)] = .ok (.int (ss.map fun o => if o < s then o else s).sum) := by simp only [fSum, intsOf_map]
  unfold roomZ
  have m2 := mul2 (ss.map fun o => if o < s then o else s).sum
  generalize (ss.map fun o => if o < s then o else s).sum = q at *
  generalize (ss.map fun o => if o < s then o else s).map D.int = qq at *
  generalize ss.map D.int = sl at *
  simp [f_room, m_room, e, sm, m2]
def threeD (p : Int × Nat × Int) : D := .tup [.int p.1, .int p.2.1, .int p.2.2]
theorem sorted_ints (ss : List Int) : fSorted [.lst (ss.map D.int)] = .ok (.lst ((sortBy ltI ss).map D.int)) := by
  simp only [fSorted, intsOf_map]

theorem groups_ok (n : Int) (ss : List Int) (hz : ss.length ≤ 63) : f_groups [.int n, .lst (ss.map D.int)] = .ok (.lst ((groupsZ n ss).map threeD)) := by
  have es := set_ok ss hz
  have eo := sorted_ints ss
  have cp : gComp (gIter (gUn dSet (gVar 1))) (.one 3) [3] gYes (gTup (VL.gCons (gVar 3) (VL.gCons (gCnt (gVar 2) (gVar 3)) (VL.gCons (gCall f_room (VL.gCons (gVar 0) (VL.gCons (gVar 1) (VL.gCons (gVar 3) VL.gNil)))) VL.gNil)))) [some (.int n), some (.lst (ss.map D.int)), some (.lst ((sortBy ltI ss).map D.int)), none] = .ok (.lst ((sortSet ss).map fun s => threeD (s, ss.count s, roomZ n ss s))) := by
    refine gComp_map (l := sortSet ss) (F := D.int) ?_ fun v _ => ?_
    · simp [es]
    · have e := room_ok n ss v
      have ec : (sortBy ltI ss).count v = ss.count v := (sortBy_perm (lt := ltI) ss).count_eq v
      have eg : gCnt (gVar 2) (gVar 3) [some (.int n), some (.lst (ss.map D.int)), some (.lst ((sortBy ltI ss).map D.int)), some (.int v)] = .ok (.int (ss.count v : Nat)) := by
        unfold gCnt
        show (match intsOf ((sortBy ltI ss).map D.int) with
          | some ns => R.ok (D.int (ns.count v : Nat))
          | none => .stuck) = _
        rw [intsOf_map, ← ec]
      generalize (sortBy ltI ss).map D.int = so at *
      generalize ss.map D.int = sl at *
      simp [gTurn, eg, e, threeD]
  unfold groupsZ
  rw [List.map_map]
  generalize hq : ((sortSet ss).map fun s => threeD (s, ss.count s, roomZ n ss s)) = rr at *
  have hq' : ((sortSet ss).map (threeD ∘ fun s => (s, ss.count s, roomZ n ss s))) = rr := by rw [← hq]; rfl
  rw [hq']
  generalize (sortBy ltI ss).map D.int = so at *
  generalize ss.map D.int = sl at *
  simp [f_groups, m_groups, eo, cp]
def tot (gs : List (Int × Nat × Int)) : Nat := (gs.map fun g => g.2.1).sum
theorem product_loop : ∀ (gs : List (Int × Nat × Int)) (S : Option D) (acc : Int) (k : Nat) (a b c : Option D), 0 ≤ acc → acc ≤ 512 ^ k → k + tot gs ≤ 60 → (∀ g ∈ gs, g.2.2 ≤ 300) → ∃ a' b' c', forL (.tup [2, 3, 4]) b_product_1 (gs.map threeD) [S, some (.int acc), a, b, c] = .nx [S, some (.int (gs.foldl (fun acc g => acc * chosenZ g.2.1 (g.2.2 + 1)) acc)), a', b', c']
  | [], S, acc, k, a, b, c, _, _, _, _ => ⟨a, b, c, rfl⟩
  | (s, m, t) :: gs, S, acc, k, a, b, c, h0, h1, h2, h3 => by
    have et : tot ((s, m, t) :: gs) = m + tot gs := by unfold tot; rw [List.map_cons, List.sum_cons]
    have ht : t ≤ 300 := h3 _ List.mem_cons_self
    obtain ⟨c0, c1⟩ := chosenZ_bd m (t + 1) (by omega) (by omega)
    have pb : acc * chosenZ m (t + 1) ≤ 512 ^ (k + m) := by
      rw [Int.pow_add]
      exact Int.mul_le_mul h1 c1 c0 (Int.le_trans h0 h1)
    obtain ⟨a', b', c', e⟩ := product_loop gs S (acc * chosenZ m (t + 1)) (k + m) (some (.int s)) (some (.int m)) (some (.int t)) (Int.mul_nonneg h0 c0) pb (by omega) fun g hg => h3 g (List.mem_cons_of_mem _ hg)
    refine ⟨a', b', c', ?_⟩
    rw [List.foldl_cons, ← e, List.map_cons]
    refine forL_step (xs := [.int s, .int m, .int t]) rfl ?_
    show b_product_1 [S, some (.int acc), some (.int s), some (.int m), some (.int t)] = .nx [S, some (.int (acc * chosenZ m (t + 1))), some (.int s), some (.int m), some (.int t)]
    have ch := chosen_ok m (by omega) (t + 1) (by omega)
    have mm : dMul (.int acc) (.int (chosenZ m (t + 1))) = _ := dMul_ok (mulOk_wide (small600 h0 h1 (by omega)) (small600 c0 c1 (by omega)))
    generalize chosenZ m (t + 1) = q at *
    simp [b_product_1, ch, mm, -dMul]
theorem product_ok (gs : List (Int × Nat × Int)) (h : tot gs ≤ 60) (h3 : ∀ g ∈ gs, g.2.2 ≤ 300) : f_product [.lst (gs.map threeD)] = .ok (.int (prodZ gs)) := by
  obtain ⟨a, b, c, e⟩ := product_loop gs (some (.lst (gs.map threeD))) 1 0 none none none (by decide) (by decide) (by omega) h3
  unfold prodZ
  generalize gs.map threeD = rr at *
  simp [f_product, m_product, e]
theorem tot_groups (n : Int) (ss : List Int) : tot (groupsZ n ss) ≤ ss.length := by
  unfold tot groupsZ
  rw [List.map_map]
  exact count_sum ss (sortSet ss) (nodup_lt (sortSet_lt ss))
theorem groups_room (n : Int) (ss : List Int) (h : Siz ss) (hn : n ≤ 300) : ∀ g ∈ groupsZ n ss, g.2.2 ≤ 300 := fun g hg => by
  obtain ⟨s, hs, rfl⟩ := List.mem_map.mp hg
  have := room_le n ss s h.1 (h.1 s ((sortSet_mem ss s).mp hs))
  show roomZ n ss s ≤ 300
  omega
theorem look_sizes_ok (ss : List Int) (h : Siz ss) : f_look_sizes [.lst (ss.map D.int)] = .ok .non := by
  have hl := h.len
  have hlen : ((ss.map D.int).length : Int) = (ss.length : Int) := by rw [List.length_map]
  have d : dRange1 (.int (ss.length : Int)) = _ := dRange1_nat (by omega)
  obtain ⟨r', e, ⟨a, hr⟩⟩ := forL_fold (fun (i : Nat) => D.int i) (fun (u : Unit) _ => u) (fun _ t => ∃ a, t = [some (.lst (ss.map D.int)), a]) (.one 1) b_look_sizes_1 (List.range ss.length) () [some (.lst (ss.map D.int)), none] ⟨none, rfl⟩ (fun k hk _ t ⟨a, e⟩ => by
    subst e
    have hk' := List.mem_range.mp hk
    have e1 := int_in (l := ss) hk' (j := (k : Int)) rfl
    have g := h.1 _ (List.getElem_mem hk')
    refine ⟨[.int k], [some (.lst (ss.map D.int)), some (.int k)], rfl, ?_, ⟨_, rfl⟩⟩
    have g' : ¬ ss[k] < 1 := by omega
    generalize ss[k] = v at *
    simp [b_look_sizes_1, e1, g', -dIdx])
  subst hr
  have sm : fSum [.lst (ss.map D.int)] = .ok (.int ss.sum) := by simp only [fSum, intsOf_map]
  have s60 : ¬ 60 < ss.sum := by have := h.2; omega
  generalize (List.range ss.length).map (fun (i : Nat) => D.int i) = rr at *
  generalize ss.sum = q at *
  simp [f_look_sizes, m_look_sizes, d, e, sm, s60]
theorem look_niches_ok (n : Int) (h0 : 0 ≤ n) (h1 : n ≤ 200) : f_look_niches [.int n] = .ok .non := by
  have a : ¬ n < 0 := by omega
  have b : ¬ 200 < n := by omega
  simp [f_look_niches, m_look_niches, a, b]
/-- a list of drawn numbers -/
def Drawn (l : List Int) : Prop := ∀ d ∈ l, 0 ≤ d ∧ d < 9967
theorem drawn_get {l : List Int} (h : Drawn l) {i : Nat} (hi : i < l.length) {j : Int} (hj : j = (i : Int)) : ∃ v : Int, 0 ≤ v ∧ v < 9967 ∧ dIdx (.lst (l.map D.int)) (.int j) = .ok (.int v) := by
  subst hj
  refine ⟨l[i], (h _ (List.getElem_mem hi)).1, (h _ (List.getElem_mem hi)).2, dIdx_list ?_⟩
  rw [List.getElem?_map, List.getElem?_eq_getElem hi]
  rfl
theorem pick3 (a b c x : Int) : ∃ v : Int, (v = a ∨ v = b ∨ v = c) ∧ dIdx (.lst [.int a, .int b, .int c]) (.int (x.fmod 3)) = .ok (.int v) := by
  have f := fmod_pos (a := x) (b := 3) (by decide)
  rcases (show x.fmod 3 = 0 ∨ x.fmod 3 = 1 ∨ x.fmod 3 = 2 by omega) with h | h | h <;> rw [h]
  · exact ⟨a, .inl rfl, dIdx_list (i := 0) rfl⟩
  · exact ⟨b, .inr (.inl rfl), dIdx_list (i := 1) rfl⟩
  · exact ⟨c, .inr (.inr rfl), dIdx_list (i := 2) rfl⟩
theorem Rc.mono {N M : Nat} {a b : List Int} (h : Rc N a b) (l : M ≤ N) : Rc M a b := by
  rcases h with h | ⟨C, a', b', h1, h2, h3⟩
  · exact .inl h
  · exact .inr ⟨C, a', b', h1, h2, by omega⟩
theorem Rc.le {N k : Nat} {a b : List Int} (h : Rc N a b) (l : k ≤ N) : k ≤ a.length ↔ k ≤ b.length := by
  rcases h with h | ⟨C, a', b', h1, h2, h3⟩
  · rw [h]
  · rw [h1, h2, List.length_append, List.length_append]
    omega
theorem Rc.take {N k : Nat} {a b : List Int} (h : Rc N a b) (l : k ≤ N) : a.take k = b.take k := by
  rcases h with h | ⟨C, a', b', h1, h2, h3⟩
  · rw [h]
  · rw [h1, h2, List.take_append_of_le_length (by omega), List.take_append_of_le_length (by omega)]
/-- .. all as deep -/
inductive RA (M : Nat) : List Run → List Run → Prop
  | nil : RA M [] []
  | cons {p q : Run} {P L : List Run} : R1 (M + 1) p q → RA M P L → RA M (p :: P) (q :: L)
theorem RA.app {M : Nat} {P L : List Run} (h : RA M P L) {p q : Run} (h2 : R1 (M + 1) p q) : RA M (P ++ [p]) (L ++ [q]) := by
  induction h with
  | nil => exact .cons h2 .nil
  | cons h _ ih => exact .cons h ih
theorem Rc.app {N : Nat} {a b x y : List Int} (h : Rc N a b) (h2 : Rc N x y) : Rc N (a ++ x) (b ++ y) := by
  rcases h with h | ⟨C, a', b', e1, e2, e3⟩
  · subst h
    rcases h2 with h2 | ⟨C, a', b', e1, e2, e3⟩
    · exact .inl (by rw [h2])
    · exact .inr ⟨a ++ C, a', b', by rw [e1, List.append_assoc], by rw [e2, List.append_assoc], by rw [List.length_append]; omega⟩
  · exact .inr ⟨C, a' ++ x, b' ++ y, by rw [e1, List.append_assoc], by rw [e2, List.append_assoc], e3⟩
theorem R1.mono {N M : Nat} {p q : Run} (h : R1 N p q) (l : M ≤ N) : R1 M p q := ⟨h.1, h.2.1, Rc.mono h.2.2 l⟩
/-- lists of runs, the last one place less deep -/
inductive RR (M : Nat) : List Run → List Run → Prop
  | nil : RR M [] []
  | last {p q : Run} : R1 M p q → RR M [p] [q]
  | cons {p q : Run} {P L : List Run} : R1 (M + 1) p q → RR M P L → RR M (p :: P) (q :: L)
theorem RR.mono {M N : Nat} {P L : List Run} (h : RR M P L) (l : N ≤ M) : RR N P L := by
  induction h with
  | nil => exact .nil
  | last h => exact .last (R1.mono h l)
  | cons h _ ih => exact .cons (R1.mono h (by omega)) ih
theorem RA.toR {M : Nat} {P L : List Run} (h : RA M P L) : RR M P L := by
  induction h with
  | nil => exact .nil
  | cons h _ ih => exact .cons h ih
theorem RA.appL {M : Nat} {P L : List Run} (h : RA M P L) {p q : Run} (h2 : R1 M p q) : RR M (P ++ [p]) (L ++ [q]) := by
  induction h with
  | nil => exact .last h2
  | cons h _ ih => exact .cons h ih
/-- joined runs alternate, none is empty, the first is full -/
structure Alt (L : List Run) : Prop where
  ne : ∀ p ∈ L, p.2 ≠ []
  hd : ∀ p, L.head? = some p → p.1 = true
  ch : ∀ (A B : List Run) (p q : Run), L = A ++ p :: q :: B → p.1 ≠ q.1
theorem Drawn.snoc {l : List Int} {x : Int} (h : Drawn l) (h1 : 0 ≤ x) (h2 : x < 9967) : Drawn (l ++ [x]) := fun d hd => by
  rcases List.mem_append.mp hd with z | z
  · exact h d z
  · have : d = x := by simpa using z
    subst this
    exact ⟨h1, h2⟩
theorem Alt.snoc {f : List Run} {l r : Run} (h : Alt (f ++ [l])) (e1 : l.1 ≠ r.1) (e2 : r.2 ≠ []) : Alt (f ++ [l] ++ [r]) := by
  refine ⟨fun p hp => ?_, fun p hp => ?_, fun A B p q e => ?_⟩
  · rcases List.mem_append.mp hp with w | w
    · exact h.ne p w
    · rw [List.mem_singleton.mp w]; exact e2
  · cases f with
    | nil => exact h.hd p hp
    | cons a f => exact h.hd p hp
  · rcases List.eq_nil_or_concat B with w | ⟨B0, b, w⟩
    · subst w
      have e3 : f ++ [l] ++ [r] = (A ++ [p]) ++ [q] := by rw [e]; simp
      obtain ⟨e4, e5⟩ := List.append_inj' e3 rfl
      cases e5
      obtain ⟨_, e7⟩ := List.append_inj' e4 rfl
      cases e7
      exact e1
    · rw [List.concat_eq_append] at w
      subst w
      have e3 : f ++ [l] ++ [r] = (A ++ p :: q :: B0) ++ [b] := by rw [e]; simp
      obtain ⟨e4, _⟩ := List.append_inj' e3 rfl
      exact h.ch A B0 p q e4
theorem RA.snoc {M : Nat} {P L : List Run} (h : RA M P L) : (P = [] ∧ L = []) ∨ ∃ P0 p L0 q, P = P0 ++ [p] ∧ L = L0 ++ [q] ∧ RA M P0 L0 ∧ R1 (M + 1) p q := by
  induction h with
  | nil => exact .inl ⟨rfl, rfl⟩
  | cons h hr ih =>
    right
    rcases ih with ⟨rfl, rfl⟩ | ⟨P0, p, L0, q, rfl, rfl, h1, h2⟩
    · exact ⟨[], _, [], _, rfl, rfl, .nil, h⟩
    · exact ⟨_ :: P0, p, _ :: L0, q, rfl, rfl, .cons h h1, h2⟩
theorem Alt.nil : Alt [] := ⟨(fun p h => nomatch h), (fun p h => nomatch h), fun A B p q e => by
  have := congrArg List.length e
  simp at this⟩
theorem R1.nil {N : Nat} {p q : Run} (h : R1 N p q) (hN : 1 ≤ N) : p.2 = [] ↔ q.2 = [] := by
  have := h.2.2.le (k := 1) hN
  rw [← List.length_eq_zero_iff, ← List.length_eq_zero_iff]
  omega
theorem Alt.snocL {f : List Run} {l : Run} (h : Alt (f ++ [l])) {l2 : Run} (e1 : l2.1 = l.1) (e2 : l2.2 ≠ []) : Alt (f ++ [l2]) := by
  refine ⟨fun p hp => ?_, fun p hp => ?_, fun A B p q e => ?_⟩
  · rcases List.mem_append.mp hp with w | w
    · exact h.ne p (List.mem_append_left _ w)
    · rw [List.mem_singleton.mp w]; exact e2
  · cases f with
    | nil =>
      have := h.hd l rfl
      cases hp
      rw [e1]; exact this
    | cons a f => exact h.hd p hp
  · rcases List.eq_nil_or_concat B with w | ⟨B0, b, w⟩
    · subst w
      have e3 : f ++ [l2] = (A ++ [p]) ++ [q] := by rw [e]; simp
      obtain ⟨e4, e5⟩ := List.append_inj' e3 rfl
      cases e5
      have := h.ch A [] p l (by rw [e4]; simp)
      rw [e1]; exact this
    · rw [List.concat_eq_append] at w
      subst w
      have e3 : f ++ [l2] = (A ++ p :: q :: B0) ++ [b] := by rw [e]; simp
      obtain ⟨e4, e5⟩ := List.append_inj' e3 rfl
      exact h.ch A (B0 ++ [l]) p q (by rw [e4]; simp)
theorem any_int (r : List Int) (v : Int) : ((r.map D.int).any fun z => dEqB z (.int v)) = decide (v ∈ r) := by
  rw [List.any_map]
  rw [Bool.eq_iff_iff, List.any_eq_true]
  constructor
  · rintro ⟨x, hx, e⟩
    have e' : (x == v) = true := e
    have : x = v := by simpa using e'
    subst this
    simpa using hx
  · intro h
    have h' : v ∈ r := by simpa using h
    exact ⟨v, h', by show (v == v) = true; simp⟩
theorem in_ints (r : List Int) (v : Int) (hl : r.length ≤ 1000) : dIn (.int v) (.lst (r.map D.int)) = .ok (.bl (decide (v ∈ r))) := by
  dsimp only [dIn]
  have h1 : shp (.int v) = true := rfl
  have h2 : shp (.lst (r.map D.int)) = true := pl_shp (n := 2) (by decide) (pl_ints (n := 0) (le_szL (by omega)))
  rw [h1, h2, any_int]
  rfl

theorem dIdx_tup {ds : List D} {i : Nat} {d : D} (h : ds[i]? = some d) : dIdx (.tup ds) (.int i) = .ok d := by
  dsimp only [dIdx]
  rw [atI_nat h]

def shortest (ps : List (Int × Int)) (q : Int) : Int := lmin (ripes ps q)
def topP (ps : List (Int × Int)) : Int := lmax (ps.map (vac ps))
def rest (ps : List (Int × Int)) (p : Int) : List (Int × Int) := ps.erase (shortest ps p, p - 2 * share ps (shortest ps p))
def shrink (ps : List (Int × Int)) (p : Int) : List (Int × Int) :=
  if 1 < shortest ps p then rest ps p ++ [(shortest ps p - 1, p - 1 - 2 * (share (rest ps p) (shortest ps p - 1) + shortest ps p - 1))] else rest ps p
theorem ripes_perm {ps qs : List (Int × Int)} (h : ps.Perm qs) (q : Int) : (ripes ps q).Perm (ripes qs q) := by
  unfold ripes
  have e : (fun p => vac ps p == q) = fun p => vac qs p == q := by
    funext p
    unfold vac
    rw [share_perm h]
  rw [e]
  exact (h.filter _).map _
theorem lmax_perm {l m : List Int} (h : l.Perm m) : lmax l = lmax m := by
  by_cases e : l = []
  · subst e
    rw [List.nil_perm.mp h]
  · have e' : m ≠ [] := fun z => by subst z; exact e (List.perm_nil.mp h)
    exact Int.le_antisymm (lmax_le (h.mem_iff.mp (lmax_mem e))) (lmax_le (h.mem_iff.mpr (lmax_mem e')))
theorem longest_perm {ps qs : List (Int × Int)} (h : ps.Perm qs) (q : Int) : longest ps q = longest qs q := by
  have r := ripes_perm h q
  unfold longest
  by_cases e : ripes ps q = []
  · have e' : ripes qs q = [] := by rw [e] at r; exact List.nil_perm.mp r
    rw [if_pos e, if_pos e']
  · have e' : ripes qs q ≠ [] := fun z => by rw [z] at r; exact e (List.perm_nil.mp r)
    rw [if_neg e, if_neg e', lmax_perm r]
theorem grow_perm {ps qs : List (Int × Int)} (h : ps.Perm qs) (p : Int) : (grow ps p).Perm (grow qs p) := by
  unfold grow
  rw [longest_perm h, share_perm h]
  by_cases c : 0 < longest qs (p - 1)
  · rw [if_pos c, if_pos c, share_perm (h.erase _)]
    exact List.Perm.append_right _ (h.erase _)
  · rw [if_neg c, if_neg c, share_perm h]
    exact List.Perm.append_right _ h
theorem longest_of {ps : List (Int × Int)} {q s : Int} (h : s ∈ ripes ps q) (k : ∀ t ∈ ripes ps q, t ≤ s) : longest ps q = s := by
  have n : ripes ps q ≠ [] := fun z => by rw [z] at h; cases h
  unfold longest
  rw [if_neg n]
  exact (lmax_of h k).symm
theorem longest_none {ps : List (Int × Int)} {q : Int} (h : ∀ t, t ∉ ripes ps q) : longest ps q = 0 := by
  unfold longest
  rw [if_pos (List.eq_nil_iff_forall_not_mem.mpr h)]
/-- the shortest train that is ripe at the greatest place -/
theorem top_some {ps : List (Int × Int)} (n : ps ≠ []) : ripes ps (topP ps) ≠ [] := by
  have m : ps.map (vac ps) ≠ [] := by simpa using n
  obtain ⟨p, hp, e⟩ := List.mem_map.mp (lmax_mem m)
  intro z
  have : p.1 ∈ ripes ps (topP ps) := List.mem_map.mpr ⟨p, List.mem_filter.mpr ⟨hp, by
    show (vac ps p == topP ps) = true
    rw [e]
    simp [topP]⟩, rfl⟩
  rw [z] at this
  cases this
theorem vac_le {ps : List (Int × Int)} {p : Int × Int} (h : p ∈ ps) : vac ps p ≤ topP ps := lmax_le (List.mem_map.mpr ⟨p, h, rfl⟩)
theorem lmin_mem : ∀ {l : List Int}, l ≠ [] → lmin l ∈ l
  | [], h => absurd rfl h
  | [x], _ => by simp [lmin]
  | x :: y :: r, _ => by
    have ih := lmin_mem (l := y :: r) (by simp)
    unfold lmin
    rcases Int.le_total x (lmin (y :: r)) with h | h
    · rw [Int.min_eq_left h]; exact List.mem_cons_self
    · rw [Int.min_eq_right h]; exact List.mem_cons_of_mem _ ih
theorem short_mem {ps : List (Int × Int)} (n : ps ≠ []) : (shortest ps (topP ps), topP ps - 2 * share ps (shortest ps (topP ps))) ∈ ps := mem_ripes.mp (lmin_mem (top_some n))
theorem lmin_le : ∀ {l : List Int} {x : Int}, x ∈ l → lmin l ≤ x
  | [], _, h => by cases h
  | [y], x, h => by
    have : x = y := by simpa using h
    subst this
    exact Int.le_refl _
  | y :: z :: r, x, h => by
    unfold lmin
    rcases List.mem_cons.mp h with e | h
    · subst e; exact Int.min_le_left _ _
    · exact Int.le_trans (Int.min_le_right _ _) (lmin_le h)

theorem short_le {ps : List (Int × Int)} {q : Int} {p : Int × Int} (h : p ∈ ps) (e : vac ps p = q) : shortest ps q ≤ p.1 := by
  refine lmin_le (List.mem_map.mpr ⟨p, List.mem_filter.mpr ⟨h, ?_⟩, rfl⟩)
  simpa using e
theorem rest_cons {ps : List (Int × Int)} (n : ps ≠ []) : ps.Perm ((shortest ps (topP ps), topP ps - 2 * share ps (shortest ps (topP ps))) :: rest ps (topP ps)) := List.perm_cons_erase (short_mem n)
theorem short_pos {ps : List (Int × Int)} (n : ps ≠ []) (h : Posi ps) : 1 ≤ shortest ps (topP ps) := h _ (short_mem n)
theorem shrink_posi {ps : List (Int × Int)} (h : Posi ps) (q : Int) : Posi (shrink ps q) := by
  have hr : Posi (rest ps q) := fun p hp => h p (List.mem_of_mem_erase hp)
  unfold shrink
  split
  · intro p hp
    rcases List.mem_append.mp hp with z | z
    · exact hr p z
    · have : p = _ := List.mem_singleton.mp z
      rw [this]
      show 1 ≤ shortest ps q - 1
      omega
  · exact hr
/-- behind the last stone taken out all are ripe further back -/
theorem shrink_vac {ps : List (Int × Int)} (n : ps ≠ []) (h : Posi ps) : ∀ z ∈ shrink ps (topP ps), vac (shrink ps (topP ps)) z ≤ topP ps - 1 ∧ (vac (shrink ps (topP ps)) z = topP ps - 1 → z.1 ≤ shortest ps (topP ps) - 1) := by
  have hj := short_pos n h
  have pc := rest_cons n
  have sh := fun s => share_perm pc s
  unfold shrink
  generalize ht : topP ps = t at *
  generalize hjj : shortest ps t = j at *
  generalize hr : rest ps t = r at *
  have memr : ∀ z ∈ r, z ∈ ps := fun z hz => pc.mem_iff.mpr (List.mem_cons_of_mem _ hz)
  split
  · rename_i c
    intro z hz
    have e : ∀ s, share (r ++ [(j - 1, t - 1 - 2 * (share r (j - 1) + j - 1))]) s = share r s + lsr (j - 1) s := fun s => by
      rw [share_app, share_cons]
      simp [share]
    unfold vac
    rw [e]
    rcases List.mem_append.mp hz with z1 | z1
    · have m := memr z z1
      have v := vac_le m
      have sl := fun q => short_le (q := q) m
      have hz1 := h z m
      have s1 := sh z.1
      rw [share_cons] at s1
      rw [ht] at v
      have sl := sl t
      rw [hjj] at sl
      unfold vac at v sl
      have a : lsr j z.1 = if j < z.1 then j else z.1 := rfl
      have b : lsr (j - 1) z.1 = if j - 1 < z.1 then j - 1 else z.1 := rfl
      have s1' : share ps z.1 = lsr j z.1 + share r z.1 := s1
      by_cases g : j ≤ z.1
      · have a' : lsr j z.1 = j := by rw [a]; split <;> omega
        have b' : lsr (j - 1) z.1 = j - 1 := by rw [b]; split <;> omega
        omega
      · have a' : lsr j z.1 = z.1 := by rw [a]; split <;> omega
        have b' : lsr (j - 1) z.1 = z.1 := by rw [b]; split <;> omega
        by_cases w : z.2 + 2 * share ps z.1 = t
        · have := sl w
          omega
        · omega
    · have : z = _ := List.mem_singleton.mp z1
      subst this
      have b : lsr (j - 1) (j - 1) = j - 1 := by unfold lsr; split <;> omega
      show t - 1 - 2 * (share r (j - 1) + j - 1) + 2 * (share r (j - 1) + lsr (j - 1) (j - 1)) ≤ t - 1 ∧ (_ → j - 1 ≤ j - 1)
      rw [b]
      exact ⟨by omega, fun _ => Int.le_refl _⟩
  · rename_i c
    intro z hz
    have m := memr z hz
    have v := vac_le m
    have hz1 := h z m
    have s1 := sh z.1
    rw [share_cons] at s1
    rw [ht] at v
    unfold vac at v ⊢
    have a' : lsr j z.1 = 1 := by unfold lsr; split <;> omega
    have s1' : share ps z.1 = lsr j z.1 + share r z.1 := s1
    omega
/-- a stone taken out and put in again -/
theorem grow_shrink {ps : List (Int × Int)} (n : ps ≠ []) (h : Posi ps) : (grow (shrink ps (topP ps)) (topP ps)).Perm ps := by
  have hv := shrink_vac n h
  have hj := short_pos n h
  have pc := rest_cons n
  have sj := share_perm pc (shortest ps (topP ps))
  rw [share_cons] at sj
  generalize ht : topP ps = t at *
  generalize hjj : shortest ps t = j at *
  have b : lsr j j = j := by unfold lsr; split <;> omega
  have sj' : share ps j = j + share (rest ps t) j := by rw [sj]; show lsr j j + _ = _; rw [b]
  by_cases c : 1 < j
  · have es : shrink ps t = rest ps t ++ [(j - 1, t - 1 - 2 * (share (rest ps t) (j - 1) + j - 1))] := by
      unfold shrink
      rw [hjj, if_pos c]
    have e : ∀ s, share (shrink ps t) s = share (rest ps t) s + lsr (j - 1) s := fun s => by
      rw [es, share_app, share_cons]
      simp [share]
    have b1 : lsr (j - 1) (j - 1) = j - 1 := by unfold lsr; split <;> omega
    have ey : (j - 1, t - 1 - 2 * share (shrink ps t) (j - 1)) = (j - 1, t - 1 - 2 * (share (rest ps t) (j - 1) + j - 1)) := by
      rw [e, b1]
      refine Prod.ext rfl ?_
      show t - 1 - 2 * (share (rest ps t) (j - 1) + (j - 1)) = _
      omega
    have my : (j - 1, t - 1 - 2 * share (shrink ps t) (j - 1)) ∈ shrink ps t := by
      rw [ey, es]
      simp
    have lg : longest (shrink ps t) (t - 1) = j - 1 := longest_of (mem_ripes.mpr my) fun s hs => by
      have := (hv _ (mem_ripes.mp hs)).2
      unfold vac at this
      have := this (by show t - 1 - 2 * share (shrink ps t) s + 2 * share (shrink ps t) s = t - 1; omega)
      exact this
    have er : ((shrink ps t).erase (j - 1, t - 1 - 2 * share (shrink ps t) (j - 1))).Perm (rest ps t) := by
      rw [ey]
      have p1 : (shrink ps t).Perm ((j - 1, t - 1 - 2 * (share (rest ps t) (j - 1) + j - 1)) :: rest ps t) := by
        rw [es]
        exact List.perm_append_comm
      have p2 := p1.erase (j - 1, t - 1 - 2 * (share (rest ps t) (j - 1) + j - 1))
      rwa [List.erase_cons_head] at p2
    unfold grow
    rw [lg, if_pos (by omega), share_perm er]
    have ex : (j - 1 + 1, t - 2 * (share (rest ps t) (j - 1 + 1) + (j - 1) + 1)) = (j, t - 2 * share ps j) := by
      have q : j - 1 + 1 = j := by omega
      rw [q, sj']
      refine Prod.ext rfl ?_
      show t - 2 * (share (rest ps t) j + (j - 1) + 1) = t - 2 * (j + share (rest ps t) j)
      omega
    rw [ex]
    exact ((List.Perm.append_right _ er).trans List.perm_append_comm).trans pc.symm
  · have j1 : j = 1 := by omega
    have es : shrink ps t = rest ps t := by
      unfold shrink
      rw [hjj, if_neg c]
    have lg : longest (shrink ps t) (t - 1) = 0 := longest_none fun s hs => by
      have m := mem_ripes.mp hs
      have := (hv _ m).2 (by unfold vac; show t - 1 - 2 * share (shrink ps t) s + 2 * share (shrink ps t) s = t - 1; omega)
      have p := shrink_posi h t _ m
      have this' : s ≤ j - 1 := this
      have p' : 1 ≤ s := p
      omega
    unfold grow
    rw [lg, if_neg (by omega), es]
    have ex : ((0 : Int) + 1, t - 2 * (share (rest ps t) (0 + 1) + 0 + 1)) = (j, t - 2 * share ps j) := by
      rw [sj', j1]
      refine Prod.ext rfl ?_
      show t - 2 * (share (rest ps t) (0 + 1) + 0 + 1) = t - 2 * (1 + share (rest ps t) 1)
      rw [show (0 : Int) + 1 = 1 from rfl]
      omega
    rw [ex]
    exact List.perm_append_comm.trans pc.symm
/-- all stones together -/
def weight (ps : List (Int × Int)) : Nat := (ps.map fun p => p.1.toNat).sum
theorem weight_perm {ps qs : List (Int × Int)} (h : ps.Perm qs) : weight ps = weight qs := by
  induction h with
  | nil => rfl
  | cons x _ ih => simp [weight] at *; omega
  | swap x y l => simp [weight]; omega
  | trans _ _ h1 h2 => exact h1.trans h2
theorem weight_shrink {ps : List (Int × Int)} (n : ps ≠ []) (h : Posi ps) : weight (shrink ps (topP ps)) + 1 = weight ps := by
  have hj := short_pos n h
  have w := weight_perm (rest_cons n)
  unfold shrink
  generalize topP ps = t at *
  generalize hjj : shortest ps t = j at *
  have w' : weight ps = j.toNat + weight (rest ps t) := by rw [w]; simp [weight]
  split
  · simp [weight] at *
    omega
  · omega
/-- the stones of a list, the last one first -/
def stonesD : Nat → List (Int × Int) → List Int
  | 0, _ => []
  | n + 1, ps => if ps = [] then [] else topP ps :: stonesD n (shrink ps (topP ps))
theorem stonesD_succ (n : Nat) (ps : List (Int × Int)) : stonesD (n + 1) ps = if ps = [] then [] else topP ps :: stonesD n (shrink ps (topP ps)) := rfl
theorem weight_zero {ps : List (Int × Int)} (h : Posi ps) (w : weight ps = 0) : ps = [] := by
  cases ps with
  | nil => rfl
  | cons p r =>
    have := h p List.mem_cons_self
    simp [weight] at w
    omega
theorem stones_grow : ∀ (n : Nat) {ps : List (Int × Int)}, Posi ps → weight ps ≤ n → ((stonesD n ps).reverse.foldl grow []).Perm ps
  | 0, ps, h, w => by
    rw [weight_zero h (by omega)]
    exact List.Perm.refl _
  | n + 1, ps, h, w => by
    unfold stonesD
    by_cases e : ps = []
    · rw [if_pos e, e]
      exact List.Perm.refl _
    · rw [if_neg e, List.reverse_cons, List.foldl_append]
      have ih := stones_grow n (shrink_posi h (topP ps)) (by have := weight_shrink e h; omega)
      exact (grow_perm ih _).trans (grow_shrink e h)
theorem stones_len : ∀ (n : Nat) {ps : List (Int × Int)}, Posi ps → weight ps ≤ n → (stonesD n ps).length = weight ps
  | 0, ps, h, w => by
    rw [weight_zero h (by omega)]
    rfl
  | n + 1, ps, h, w => by
    unfold stonesD
    by_cases e : ps = []
    · rw [if_pos e, e]
      rfl
    · have q := weight_shrink e h
      rw [if_neg e, List.length_cons, stones_len n (shrink_posi h (topP ps)) (by omega)]
      exact q
theorem topP_shrink {ps : List (Int × Int)} (n : ps ≠ []) (h : Posi ps) (m : shrink ps (topP ps) ≠ []) : topP (shrink ps (topP ps)) ≤ topP ps - 1 := by
  have q : (shrink ps (topP ps)).map (vac (shrink ps (topP ps))) ≠ [] := by simpa using m
  obtain ⟨p, hp, e⟩ := List.mem_map.mp (lmax_mem q)
  show lmax _ ≤ _
  rw [← e]
  exact (shrink_vac n h p hp).1
theorem stones_lt : ∀ (n : Nat) {ps : List (Int × Int)}, Posi ps → (stonesD n ps).Pairwise (fun a b => b < a) ∧ ∀ x ∈ stonesD n ps, x ≤ topP ps
  | 0, ps, h => ⟨List.Pairwise.nil, fun x hx => nomatch hx⟩
  | n + 1, ps, h => by
    unfold stonesD
    by_cases e : ps = []
    · rw [if_pos e]
      exact ⟨List.Pairwise.nil, fun x hx => nomatch hx⟩
    · rw [if_neg e]
      obtain ⟨i1, i2⟩ := stones_lt n (shrink_posi h (topP ps))
      have k : ∀ x ∈ stonesD n (shrink ps (topP ps)), x ≤ topP ps - 1 := fun x hx => by
        have m : shrink ps (topP ps) ≠ [] := fun z => by
          rw [z] at hx
          cases n <;> simp [stonesD] at hx
        exact Int.le_trans (i2 x hx) (topP_shrink e h m)
      refine ⟨List.pairwise_cons.mpr ⟨fun x hx => by have := k x hx; omega, i1⟩, fun x hx => ?_⟩
      rcases List.mem_cons.mp hx with z | z
      · rw [z]; exact Int.le_refl _
      · have := k x z; omega
theorem grow_posi {ps : List (Int × Int)} (h : Posi ps) (q : Int) : Posi (grow ps q) := by
  have l0 : 0 ≤ longest ps (q - 1) := by
    unfold longest
    split
    · exact Int.le_refl _
    · rename_i n
      have := h _ (mem_ripes.mp (lmax_mem n))
      have : 1 ≤ lmax (ripes ps (q - 1)) := this
      omega
  intro p hp
  unfold grow at hp
  rcases List.mem_append.mp hp with z | z
  · split at z
    · exact h p (List.mem_of_mem_erase z)
    · exact h p z
  · have : p = _ := List.mem_singleton.mp z
    rw [this]
    show 1 ≤ longest ps (q - 1) + 1
    omega
theorem grows_posi : ∀ (r : List Int) {ps : List (Int × Int)}, Posi ps → Posi (r.foldl grow ps)
  | [], _, h => h
  | p :: r, _, h => grows_posi r (grow_posi h p)
theorem weight_app (ps qs : List (Int × Int)) : weight (ps ++ qs) = weight ps + weight qs := by simp [weight]

theorem fSum_ints (l : List Int) : fSum [.lst (l.map D.int)] = .ok (.int l.sum) := by
  dsimp only [fSum]
  rw [intsOf_map]
theorem fSum_map {γ : Type} (l : List γ) (G : γ → Int) : fSum [.lst (l.map fun x => D.int (G x))] = .ok (.int (l.map G).sum) := by
  have e : (l.map fun x => D.int (G x)) = (l.map G).map D.int := by rw [List.map_map]; rfl
  rw [e, fSum_ints]

theorem lesser_ok (ps : List (Int × Int)) (s : Int) : f_lesser_L [.lst (ps.map twoD), .int s] = .ok (.int (share ps s)) := by
  have c : gComp (gIter (gVar 0)) (.tup [2, 3]) [2, 3] gYes (gCall fMin2 (VL.gCons (gVar 1) (VL.gCons (gVar 2) VL.gNil))) [some (.lst (ps.map twoD)), some (.int s), none, none] = .ok (.lst (ps.map fun p => D.int (if p.1 < s then p.1 else s))) :=
    gComp_map (F := twoD) rfl fun p _ => by simp [gTurn, twoD]
  simp [f_lesser_L, m_lesser_L, c, fSum_map, share]

theorem lesser_app (fr : List (Int × Int)) (a b s : Int) : f_lesser_L [.lst (fr.map twoD ++ [.tup [.int a, .int b]]), .int s] = .ok (.int (share fr s + lsr a s)) := by
  rw [app_pair, lesser_ok, share_app, share_cons]
  simp [share]
theorem lsr_self (a : Int) : lsr a a = a := by unfold lsr; split <;> omega

theorem alike_pairs : ∀ A B : List (Int × Int), PySem.W.alikeAll (toPys (A.map twoD)) (toPys (B.map twoD)) = true
  | [], _ => by simp [toPys, PySem.W.alikeAll]
  | _ :: _, [] => by simp [toPys, PySem.W.alikeAll]
  | a :: A, b :: B => by
    have i := alike_pairs A B
    simp only [List.map_cons, toPys, PySem.W.alikeAll, twoD, toPy, PySem.W.alike, Bool.and_true, Bool.true_and, i]
/-- pairs alike in sizes, the first offset that differs is less -/
def lexP : List (Int × Int) → List (Int × Int) → Prop
  | a :: as, b :: bs => a.1 = b.1 ∧ (a.2 < b.2 ∨ a.2 = b.2 ∧ lexP as bs)
  | _, _ => False
theorem lexP_lt : ∀ (A B : List (Int × Int)), lexP A B → PyProof.Rows.lexLt PyProof.Rows.itemOrd (PySem.W.keyToksAll (toPys (A.map twoD))) (PySem.W.keyToksAll (toPys (B.map twoD))) = true
  | [], _, h => h.elim
  | _ :: _, [], h => h.elim
  | a :: A, b :: B, h => by
    obtain ⟨h1, h2⟩ := h
    show PyProof.Rows.lexLt PyProof.Rows.itemOrd (PySem.W.keyToksAll (.tuple [.int a.1, .int a.2] :: toPys (A.map twoD))) (PySem.W.keyToksAll (.tuple [.int b.1, .int b.2] :: toPys (B.map twoD))) = true
    rw [PySem.W.dataLt_cons (by simp [PySem.W.alike, PySem.W.alikeAll])]
    rcases h2 with h2 | ⟨h2, h3⟩
    · have ne : PyData.eqv (.tuple [.int a.1, .int a.2]) (.tuple [.int b.1, .int b.2]) = false := by
        have : a.2 ≠ b.2 := by omega
        simp [PyData.eqv, PyData.eqvAll, this]
      rw [ne, if_neg (by simp), PySem.W.dataLt_ii]
      exact decide_eq_true (.inr ⟨h1, h2⟩)
    · have eq : PyData.eqv (.tuple [.int a.1, .int a.2]) (.tuple [.int b.1, .int b.2]) = true := by
        simp [PyData.eqv, PyData.eqvAll, h1, h2]
      rw [eq, if_pos rfl]
      exact lexP_lt A B h3
theorem share_ok (ps : List (Int × Int)) (s : Int) : f_share [.lst (ps.map twoD), .int s] = .ok (.int (share ps s)) := by
  have c : gComp (gIter (gVar 0)) (.tup [2, 3]) [2, 3] gYes (gCall fMin2 (VL.gCons (gVar 1) (VL.gCons (gVar 2) VL.gNil))) [some (.lst (ps.map twoD)), some (.int s), none, none] = .ok (.lst (ps.map fun p => D.int (if p.1 < s then p.1 else s))) :=
    gComp_map (F := twoD) rfl fun p _ => by simp [gTurn, twoD]
  simp [f_share, m_share, c, fSum_map, share]
theorem mark_ok (ps : List (Int × Int)) (s p : Int) : f_mark [.lst (ps.map twoD), .int s, .int p] = .ok (.int (p - 2 * share ps s)) := by
  have m : mulOk 2 (share ps s) = true := mulOk_left (by decide) (by decide)
  simp [f_mark, m_mark, share_ok, m]

def mc : Nat → Nat → Nat
  | _, 0 => 1
  | 0, _ + 1 => 0
  | t + 1, k + 1 => mc t (k + 1) + mc (t + 1) k
termination_by t k => t + k
theorem mc_0 (t : Nat) : mc t 0 = 1 := by cases t <;> rw [mc]
theorem mc_z (k : Nat) : mc 0 (k + 1) = 0 := by rw [mc]
theorem mc_s (t k : Nat) : mc (t + 1) (k + 1) = mc t (k + 1) + mc (t + 1) k := by rw [mc]
theorem mc_PQ : ∀ (n t k : Nat), t + k ≤ n → (k + 1) * mc t (k + 1) = (t + k) * mc t k ∧ (t + k) * mc t k = t * mc (t + 1) k
  | 0, t, k, h => by
    have h1 : t = 0 := by omega
    have h2 : k = 0 := by omega
    subst h1
    subst h2
    rw [mc_z, mc_0, mc_0]
    exact ⟨rfl, rfl⟩
  | n + 1, 0, k, _ => by
    rw [mc_z]
    cases k with
    | zero => rw [mc_0, mc_0]; exact ⟨rfl, rfl⟩
    | succ k => rw [mc_z]; simp
  | n + 1, t + 1, 0, h => by
    obtain ⟨p, -⟩ := mc_PQ n t 0 (by omega)
    rw [mc_0] at p
    rw [mc_s, mc_0, mc_0]
    omega
  | n + 1, t + 1, k + 1, h => by
    obtain ⟨p1, q1⟩ := mc_PQ n t (k + 1) (by omega)
    obtain ⟨p2, q2⟩ := mc_PQ n (t + 1) k (by omega)
    have a : (k + 1 + 1) * mc (t + 1) (k + 1 + 1) = (t + 1 + (k + 1)) * mc (t + 1) (k + 1) := by
      rw [mc_s, Nat.mul_add, p1, q1, ← Nat.add_mul]
      congr 1
      omega
    refine ⟨a, ?_⟩
    have e : mc (t + 1 + 1) (k + 1) = mc (t + 1) (k + 1) + mc (t + 1 + 1) k := mc_s (t + 1) k
    rw [e, Nat.mul_add, ← q2, ← p2, ← Nat.add_mul]
theorem mc_P (t k : Nat) : (k + 1) * mc t (k + 1) = (t + k) * mc t k := (mc_PQ (t + k) t k (Nat.le_refl _)).1
theorem choZ_mc (t : Nat) : ∀ k : Nat, choZ (t : Int) k = (mc t k : Int)
  | 0 => by rw [mc_0]; rfl
  | k + 1 => by
    show (choZ (t : Int) k * ((t : Int) + (k : Int))).fdiv ((k : Int) + 1) = _
    rw [choZ_mc t k]
    have e : ((mc t k : Int)) * ((t : Int) + (k : Int)) = (mc t (k + 1) : Int) * ((k : Int) + 1) := by
      have := mc_P t k
      have w : (((k + 1) * mc t (k + 1) : Nat) : Int) = (((t + k) * mc t k : Nat) : Int) := by rw [this]
      rw [Int.natCast_mul, Int.natCast_mul, Int.natCast_add, Int.natCast_add] at w
      rw [Int.mul_comm, ← w, Int.mul_comm]
      rfl
    rw [e, Int.mul_fdiv_cancel _ (by omega)]
theorem chosenZ_mc (m : Nat) (t : Int) : chosenZ m t = (mc t.toNat m : Int) := by
  unfold chosenZ
  by_cases c : t < 1
  · rw [if_pos c, show t.toNat = 0 by omega]
    cases m with
    | zero => rw [mc_0]; rfl
    | succ m => rw [mc_z]; rfl
  · rw [if_neg c]
    obtain ⟨n, rfl⟩ : ∃ n : Nat, t = (n : Int) := ⟨t.toNat, by omega⟩
    rw [choZ_mc, Int.toNat_natCast]
/-- the rising row of k offsets from low on, t things, that has number m -/
def onum (low : Int) : Nat → Nat → Nat → List Int
  | _, 0, _ => []
  | 0, _ + 1, _ => []
  | t + 1, k + 1, m => if m < mc (t + 1) k then low :: onum low (t + 1) k m else onum (low + 1) t (k + 1) (m - mc (t + 1) k)
termination_by t k _ => t + k
theorem onum_0 (low : Int) (t m : Nat) : onum low t 0 m = [] := by cases t <;> rw [onum]
theorem onum_s (low : Int) (t k m : Nat) : onum low (t + 1) (k + 1) m = if m < mc (t + 1) k then low :: onum low (t + 1) k m else onum (low + 1) t (k + 1) (m - mc (t + 1) k) := by rw [onum]
theorem onum_facts : ∀ (n t k : Nat), t + k ≤ n → ∀ (low : Int) (m : Nat), m < mc t k → (onum low t k m).length = k ∧ (∀ o ∈ onum low t k m, low ≤ o ∧ o < low + t) ∧ (onum low t k m).Pairwise (· ≤ ·)
  | n, t, 0, _, low, m, _ => by rw [onum_0]; exact ⟨rfl, (fun _ h => nomatch h), .nil⟩
  | n, 0, k + 1, _, low, m, h => by rw [mc_z] at h; exact absurd h (Nat.not_lt_zero _)
  | 0, t + 1, k + 1, h, _, _, _ => by omega
  | n + 1, t + 1, k + 1, hn, low, m, h => by
    rw [onum_s]
    split
    · rename_i c
      obtain ⟨i1, i2, i3⟩ := onum_facts n (t + 1) k (by omega) low m c
      refine ⟨by rw [List.length_cons, i1], fun o ho => ?_, List.pairwise_cons.mpr ⟨fun o ho => (i2 o ho).1, i3⟩⟩
      rcases List.mem_cons.mp ho with z | z
      · subst z; omega
      · exact i2 o z
    · rename_i c
      rw [mc_s] at h
      obtain ⟨i1, i2, i3⟩ := onum_facts n t (k + 1) (by omega) (low + 1) (m - mc (t + 1) k) (by omega)
      exact ⟨i1, fun o ho => by have := i2 o ho; omega, i3⟩
/-- d steps up, k more to choose -/
def rsum (k : Nat) : Nat → Nat → Nat
  | _, 0 => 0
  | t, d + 1 => mc t k + rsum k (t - 1) d
/-- the number of a row of offsets -/
def rank (low : Int) (t : Nat) : List Int → Nat
  | [] => 0
  | o :: os => rsum os.length t (o - low).toNat + rank o (t - (o - low).toNat) os
theorem rank_onum : ∀ (n t k : Nat), t + k ≤ n → ∀ (low : Int) (m : Nat), m < mc t k → rank low t (onum low t k m) = m
  | n, t, 0, _, low, m, h => by rw [onum_0]; rw [mc_0] at h; show 0 = m; omega
  | n, 0, k + 1, _, low, m, h => by rw [mc_z] at h; exact absurd h (Nat.not_lt_zero _)
  | 0, t + 1, k + 1, h, _, _, _ => by omega
  | n + 1, t + 1, k + 1, hn, low, m, h => by
    rw [onum_s]
    split
    · rename_i c
      have i := rank_onum n (t + 1) k (by omega) low m c
      show rsum _ _ (low - low).toNat + rank low (t + 1 - (low - low).toNat) _ = m
      rw [show (low - low).toNat = 0 by omega]
      show 0 + rank low (t + 1) _ = m
      rw [i, Nat.zero_add]
    · rename_i c
      rw [mc_s] at h
      have i := rank_onum n t (k + 1) (by omega) (low + 1) (m - mc (t + 1) k) (by omega)
      obtain ⟨l, f, -⟩ := onum_facts n t (k + 1) (by omega) (low + 1) (m - mc (t + 1) k) (by omega)
      generalize onum (low + 1) t (k + 1) (m - mc (t + 1) k) = L at *
      cases L with
      | nil => cases l
      | cons o os =>
        have fo := f o List.mem_cons_self
        have lo : os.length = k := by simpa using l
        have e1 : (o - low).toNat = (o - (low + 1)).toNat + 1 := by omega
        have e2 : rank low (t + 1) (o :: os) = mc (t + 1) k + rank (low + 1) t (o :: os) := by
          show rsum os.length (t + 1) (o - low).toNat + rank o (t + 1 - (o - low).toNat) os = mc (t + 1) k + (rsum os.length t (o - (low + 1)).toNat + rank o (t - (o - (low + 1)).toNat) os)
          rw [e1, lo, show t + 1 - ((o - (low + 1)).toNat + 1) = t - (o - (low + 1)).toNat by omega]
          show mc (t + 1) k + rsum k (t + 1 - 1) _ + _ = _
          rw [show t + 1 - 1 = t by omega]
          omega
        rw [e2, i]
        omega
/-- a < b: the first that differs is less, both as long -/
def lexZ : List Int → List Int → Prop
  | a :: as, b :: bs => a < b ∨ a = b ∧ lexZ as bs
  | _, _ => False
theorem onum_lex : ∀ (n t k : Nat), t + k ≤ n → ∀ (low : Int) (m m' : Nat), m < m' → m' < mc t k → lexZ (onum low t k m) (onum low t k m')
  | n, t, 0, _, low, m, m', h1, h2 => by rw [mc_0] at h2; omega
  | n, 0, k + 1, _, low, m, m', _, h => by rw [mc_z] at h; exact absurd h (Nat.not_lt_zero _)
  | 0, t + 1, k + 1, h, _, _, _, _, _ => by omega
  | n + 1, t + 1, k + 1, hn, low, m, m', h1, h2 => by
    rw [onum_s, onum_s]
    by_cases c' : m' < mc (t + 1) k
    · rw [if_pos c', if_pos (by omega)]
      exact .inr ⟨rfl, onum_lex n (t + 1) k (by omega) low m m' h1 c'⟩
    · rw [if_neg c']
      rw [mc_s] at h2
      by_cases c : m < mc (t + 1) k
      · rw [if_pos c]
        obtain ⟨l, f, -⟩ := onum_facts n t (k + 1) (by omega) (low + 1) (m' - mc (t + 1) k) (by omega)
        generalize onum (low + 1) t (k + 1) (m' - mc (t + 1) k) = L at *
        cases L with
        | nil => cases l
        | cons o os =>
          have fo := f o List.mem_cons_self
          exact .inl (by omega)
      · rw [if_neg c]
        exact onum_lex n t (k + 1) (by omega) (low + 1) _ _ (by omega) (by omega)
def prodN : List (Int × Nat × Int) → Nat
  | [] => 1
  | g :: gs => mc (g.2.2 + 1).toNat g.2.1 * prodN gs
def rnum : List (Int × Nat × Int) → Nat → List (Int × Int)
  | [], _ => []
  | g :: gs, m => (onum 0 (g.2.2 + 1).toNat g.2.1 (m / prodN gs)).map (fun o => (g.1, o)) ++ rnum gs (m % prodN gs)
theorem rnum_lt {a p m : Nat} (h : m < a * p) : m / p < a ∧ m % p < p := by
  have hp : 0 < p := by
    rcases Nat.eq_zero_or_pos p with z | z
    · subst z; rw [Nat.mul_zero] at h; exact absurd h (Nat.not_lt_zero _)
    · exact z
  exact ⟨(Nat.div_lt_iff_lt_mul hp).mpr h, Nat.mod_lt _ hp⟩
theorem lexP_pre (P : List (Int × Int)) {A B : List (Int × Int)} (h : lexP A B) : lexP (P ++ A) (P ++ B) := by
  induction P with
  | nil => exact h
  | cons p P ih => exact ⟨rfl, .inr ⟨rfl, ih⟩⟩
theorem lexP_of (s : Int) : ∀ {a b : List Int} (A B : List (Int × Int)), lexZ a b → lexP (a.map (fun o => (s, o)) ++ A) (b.map (fun o => (s, o)) ++ B)
  | [], _, _, _, h => h.elim
  | _ :: _, [], _, _, h => h.elim
  | x :: a, y :: b, A, B, h => by
    rcases h with h | ⟨h1, h2⟩
    · exact ⟨rfl, .inl h⟩
    · exact ⟨rfl, .inr ⟨h1, lexP_of s A B h2⟩⟩
theorem rnum_lex : ∀ (gs : List (Int × Nat × Int)) (m m' : Nat), m < m' → m' < prodN gs → lexP (rnum gs m) (rnum gs m')
  | [], m, m', h1, h2 => by unfold prodN at h2; omega
  | g :: gs, m, m', h1, h2 => by
    obtain ⟨a1, a2⟩ := rnum_lt (m := m) (show m < mc (g.2.2 + 1).toNat g.2.1 * prodN gs from by unfold prodN at h2; omega)
    obtain ⟨b1, b2⟩ := rnum_lt (m := m') h2
    have d := Nat.div_le_div_right (c := prodN gs) (Nat.le_of_lt h1)
    show lexP ((onum 0 _ _ (m / prodN gs)).map _ ++ _) ((onum 0 _ _ (m' / prodN gs)).map _ ++ _)
    by_cases c : m / prodN gs = m' / prodN gs
    · rw [c]
      refine lexP_pre _ (rnum_lex gs _ _ ?_ b2)
      have e1 := Nat.div_add_mod m (prodN gs)
      have e2 := Nat.div_add_mod m' (prodN gs)
      rw [c] at e1
      omega
    · exact lexP_of g.1 _ _ (onum_lex _ _ _ (Nat.le_refl _) 0 _ _ (by omega) b1)
theorem rnum_sizes : ∀ (gs : List (Int × Nat × Int)) (m : Nat), m < prodN gs → (rnum gs m).map (·.1) = (gs.map fun g => List.replicate g.2.1 g.1).flatten
  | [], m, _ => rfl
  | g :: gs, m, h => by
    obtain ⟨a1, a2⟩ := rnum_lt (m := m) h
    obtain ⟨l, -, -⟩ := onum_facts _ _ _ (Nat.le_refl _) 0 _ a1
    show ((onum 0 _ _ _).map _ ++ _).map _ = _
    rw [List.map_append, rnum_sizes gs _ a2, List.map_cons, List.flatten_cons, List.map_map]
    congr 1
    refine List.eq_replicate_iff.mpr ⟨by rw [List.length_map, l], fun b hb => ?_⟩
    obtain ⟨o, _, rfl⟩ := List.mem_map.mp hb
    rfl
theorem rnum_mem : ∀ (gs : List (Int × Nat × Int)) (m : Nat), m < prodN gs → ∀ p ∈ rnum gs m, ∃ g ∈ gs, p.1 = g.1 ∧ 0 ≤ p.2 ∧ p.2 ≤ g.2.2
  | [], m, _, p, hp => nomatch hp
  | g :: gs, m, h, p, hp => by
    obtain ⟨a1, a2⟩ := rnum_lt (m := m) h
    obtain ⟨l, f, -⟩ := onum_facts _ _ _ (Nat.le_refl _) 0 _ a1
    rcases List.mem_append.mp (show p ∈ (onum 0 _ _ _).map _ ++ _ from hp) with w | w
    · obtain ⟨o, ho, rfl⟩ := List.mem_map.mp w
      have := f o ho
      exact ⟨g, List.mem_cons_self, rfl, this.1, by show o ≤ _; omega⟩
    · obtain ⟨g', hg, r⟩ := rnum_mem gs _ a2 p w
      exact ⟨g', List.mem_cons_of_mem _ hg, r⟩
/-- sizes rising -/
theorem rnum_sorted : ∀ (gs : List (Int × Nat × Int)) (m : Nat), m < prodN gs → gs.Pairwise (fun a b => a.1 < b.1) → (rnum gs m).Pairwise fun a b => a.1 < b.1 ∨ a.1 = b.1 ∧ a.2 ≤ b.2
  | [], m, _, _ => .nil
  | g :: gs, m, h, w => by
    obtain ⟨a1, a2⟩ := rnum_lt (m := m) h
    obtain ⟨l, f, s⟩ := onum_facts _ _ _ (Nat.le_refl _) 0 _ a1
    obtain ⟨w1, w2⟩ := List.pairwise_cons.mp w
    show ((onum 0 _ _ _).map _ ++ _).Pairwise _
    refine List.pairwise_append.mpr ⟨List.pairwise_map.mpr (s.imp fun q => .inr ⟨rfl, q⟩), rnum_sorted gs _ a2 w2, fun p hp q hq => ?_⟩
    obtain ⟨o, _, rfl⟩ := List.mem_map.mp hp
    obtain ⟨g', hg, e, _⟩ := rnum_mem gs _ a2 q hq
    exact .inl (by rw [e]; exact w1 g' hg)
def offs (ps : List (Int × Int)) (s : Int) : List Int := (ps.filter fun p => decide (p.1 = s)).map (·.2)
/-- the number of a list -/
def numZ (ps : List (Int × Int)) : List (Int × Nat × Int) → Nat
  | [] => 0
  | g :: gs => rank 0 (g.2.2 + 1).toNat (offs ps g.1) * prodN gs + numZ ps gs
theorem offs_app (a b : List (Int × Int)) (s : Int) : offs (a ++ b) s = offs a s ++ offs b s := by unfold offs; rw [List.filter_append, List.map_append]
theorem offs_own (s : Int) (os : List Int) : offs (os.map fun o => (s, o)) s = os := by
  unfold offs
  rw [List.filter_eq_self.mpr (by intro p hp; obtain ⟨o, _, rfl⟩ := List.mem_map.mp hp; simp), List.map_map]
  exact List.map_id' os
theorem offs_none {ps : List (Int × Int)} {s : Int} (h : ∀ p ∈ ps, p.1 ≠ s) : offs ps s = [] := by
  unfold offs
  rw [List.filter_eq_nil_iff.mpr fun p hp => by simpa using h p hp]
  rfl
theorem numZ_rnum : ∀ (gs : List (Int × Nat × Int)) (m : Nat) (P : List (Int × Int)), m < prodN gs → gs.Pairwise (fun a b => a.1 < b.1) → (∀ p ∈ P, ∀ g ∈ gs, p.1 ≠ g.1) → numZ (P ++ rnum gs m) gs = m
  | [], m, P, h, _, _ => by unfold prodN at h; show 0 = m; omega
  | g :: gs, m, P, h, w, hP => by
    obtain ⟨a1, a2⟩ := rnum_lt (m := m) h
    obtain ⟨w1, w2⟩ := List.pairwise_cons.mp w
    show rank 0 _ (offs (P ++ ((onum 0 (g.2.2 + 1).toNat g.2.1 (m / prodN gs)).map (fun o => (g.1, o)) ++ rnum gs (m % prodN gs))) g.1) * prodN gs + numZ (P ++ ((onum 0 (g.2.2 + 1).toNat g.2.1 (m / prodN gs)).map (fun o => (g.1, o)) ++ rnum gs (m % prodN gs))) gs = m
    have o1 : offs (P ++ ((onum 0 (g.2.2 + 1).toNat g.2.1 (m / prodN gs)).map (fun o => (g.1, o)) ++ rnum gs (m % prodN gs))) g.1 = onum 0 (g.2.2 + 1).toNat g.2.1 (m / prodN gs) := by
      rw [offs_app, offs_app, offs_own, offs_none fun p hp => hP p hp g List.mem_cons_self, offs_none fun p hp => ?_, List.nil_append, List.append_nil]
      obtain ⟨g', hg, e, _⟩ := rnum_mem gs _ a2 p hp
      have := w1 g' hg
      omega
    rw [o1, rank_onum _ _ _ (Nat.le_refl _) 0 _ a1, ← List.append_assoc, numZ_rnum gs (m % prodN gs) _ a2 w2, Nat.mul_comm]
    · exact Nat.div_add_mod m (prodN gs)
    · intro p hp g' hg
      rcases List.mem_append.mp hp with z | z
      · exact hP p z g' (List.mem_cons_of_mem _ hg)
      · obtain ⟨o, _, rfl⟩ := List.mem_map.mp z
        have := w1 g' hg
        show g.1 ≠ g'.1
        omega
theorem prodZ_acc : ∀ (gs : List (Int × Nat × Int)) (acc : Int), gs.foldl (fun acc g => acc * chosenZ g.2.1 (g.2.2 + 1)) acc = acc * (prodN gs : Int)
  | [], acc => by show acc = acc * ((1 : Nat) : Int); omega
  | g :: gs, acc => by
    rw [List.foldl_cons, prodZ_acc gs, chosenZ_mc, Int.mul_assoc]
    show _ = acc * ((mc (g.2.2 + 1).toNat g.2.1 * prodN gs : Nat) : Int)
    rw [Int.natCast_mul]
theorem prodZ_N (gs : List (Int × Nat × Int)) : prodZ gs = (prodN gs : Int) := by
  unfold prodZ
  rw [prodZ_acc, Int.one_mul]

theorem dFdiv_wide {a b : Int} (h1 : 0 < b) (h2 : b.natAbs < 2 ^ 2000) : dFdiv (.int a) (.int b) = .ok (.int (a.fdiv b)) := by
  dsimp only [dFdiv]
  rw [if_pos (.inr ⟨h1, by rw [w600_val]; exact h2⟩)]
theorem on_loop (many : Nat) (hmany : many ≤ 60) (most : Int) : ∀ (j t k m fuel : Nat) (low : Int) (F : List Int) (x5 x6 : Option D), t + k ≤ j → j < fuel → most - low + 1 = (t : Int) → m < mc t k → t ≤ 300 → F.length + k = many →
    ∃ low' m' y5 y6, whileL (gTest (gBin dLt (gCall fLen (VL.gCons (gVar 3) VL.gNil)) (gVar 0))) b_offsets_numbered_1 fuel [some (.int many), some (.int most), some (.int m), some (.lst (F.map D.int)), some (.int low), x5, x6] = .nx [some (.int many), some (.int most), some (.int m'), some (.lst ((F ++ onum low t k m).map D.int)), low', y5, y6]
  | j, t, 0, m, 0, low, F, x5, x6, _, h, _, _, _, _ => by omega
  | j, t, 0, m, fuel + 1, low, F, x5, x6, _, _, _, _, _, hF => by
    refine ⟨some (.int low), m, x5, x6, ?_⟩
    rw [onum_0, List.append_nil]
    have ln : fLen [.lst (F.map D.int)] = .ok (.int (F.length : Nat)) := by simp [fLen]
    refine whileL_fin ?_
    have c : ¬ ((F.length : Nat) : Int) < (many : Int) := by omega
    generalize F.map D.int = fl at *
    simp [ln, c, -fLen]
  | j, 0, k + 1, m, fuel, low, F, x5, x6, _, _, _, h, _, _ => by rw [mc_z] at h; exact absurd h (Nat.not_lt_zero _)
  | 0, t + 1, k + 1, _, _, _, _, _, _, h, _, _, _, _, _ => by omega
  | j + 1, t + 1, k + 1, m, 0, _, _, _, _, _, h, _, _, _, _ => by omega
  | j + 1, t + 1, k + 1, m, fuel + 1, low, F, x5, x6, h1, h2, h3, h4, h5, h6 => by
    have ln : fLen [.lst (F.map D.int)] = .ok (.int (F.length : Nat)) := by simp [fLen]
    have c : ((F.length : Nat) : Int) < (many : Int) := by omega
    have ch := chosen_ok k (by omega) (most - low + 1) (by omega)
    have hT : (most - low + 1).toNat = t + 1 := by omega
    rw [chosenZ_mc, hT] at ch
    have er : (many : Int) - (F.length : Nat) - 1 = (k : Int) := by omega
    by_cases cm : m < mc (t + 1) k
    · obtain ⟨low', m', y5, y6, e⟩ := on_loop many hmany most j (t + 1) k m fuel low (F ++ [low]) (some (.int k)) (some (.int (mc (t + 1) k : Nat))) (by omega) (by omega) h3 cm h5 (by simp; omega)
      refine ⟨low', m', y5, y6, ?_⟩
      rw [onum_s, if_pos cm]
      rw [List.append_assoc] at e
      rw [← show F ++ ([low] ++ onum low (t + 1) k m) = F ++ low :: onum low (t + 1) k m from rfl, ← e]
      have lz : F.length < szL := lt_szL (by omega)
      have lz' : (F.map D.int).length < szL := by rw [List.length_map]; exact lz
      have cm' : (m : Int) < ((mc (t + 1) k : Nat) : Int) := by omega
      have eap : (F ++ [low]).map D.int = F.map D.int ++ [D.int low] := by simp
      rw [eap]
      generalize mc (t + 1) k = w at *
      generalize F.map D.int = fl at *
      refine whileL_turn ?_ ?_
      · simp [ln, c, -fLen]
      · simp [b_offsets_numbered_1, ln, er, ch, cm', lz', -fLen]
    · rw [mc_s] at h4
      obtain ⟨low', m', y5, y6, e⟩ := on_loop many hmany most j t (k + 1) (m - mc (t + 1) k) fuel (low + 1) F (some (.int k)) (some (.int (mc (t + 1) k : Nat))) (by omega) (by omega) (by omega) (by omega) (by omega) h6
      refine ⟨low', m', y5, y6, ?_⟩
      rw [onum_s, if_neg cm, ← e]
      have cm' : ¬ (m : Int) < ((mc (t + 1) k : Nat) : Int) := by omega
      have es : ((m - mc (t + 1) k : Nat) : Int) = (m : Int) - ((mc (t + 1) k : Nat) : Int) := by omega
      rw [es]
      generalize mc (t + 1) k = w at *
      generalize F.map D.int = fl at *
      refine whileL_turn ?_ ?_
      · simp [ln, c, -fLen]
      · simp [b_offsets_numbered_1, ln, er, ch, cm', noX, dIAdd, -fLen]
theorem on_ok (many m : Nat) (most : Int) (hm : many ≤ 60) (ht : most ≤ 250) (h : m < mc (most + 1).toNat many) : f_offsets_numbered [.int many, .int most, .int m] = .ok (.lst ((onum 0 (most + 1).toNat many m).map D.int)) := by
  by_cases neg : most + 1 < 0
  · have z : (most + 1).toNat = 0 := by omega
    rw [z] at h ⊢
    cases many with
    | zero =>
      rw [onum_0]
      have e : whileL (gTest (gBin dLt (gCall fLen (VL.gCons (gVar 3) VL.gNil)) (gVar 0))) b_offsets_numbered_1 WB [some (.int 0), some (.int most), some (.int m), some (.lst []), some (.int 0), none, none] = .nx [some (.int 0), some (.int most), some (.int m), some (.lst []), some (.int 0), none, none] := by
        rw [WB_eq]
        exact whileL_fin (by simp)
      simp [f_offsets_numbered, m_offsets_numbered, e]
    | succ k => rw [mc_z] at h; exact absurd h (Nat.not_lt_zero _)
  · obtain ⟨low', m', y5, y6, e⟩ := on_loop many hm most ((most + 1).toNat + many) (most + 1).toNat many m WB 0 [] none none (Nat.le_refl _) (by rw [WB_eq]; omega) (by omega) h (by omega) (by simp)
    rw [List.nil_append] at e
    have e' : whileL (gTest (gBin dLt (gCall fLen (VL.gCons (gVar 3) VL.gNil)) (gVar 0))) b_offsets_numbered_1 WB [some (.int many), some (.int most), some (.int m), some (.lst []), some (.int 0), none, none] = _ := e
    generalize (onum 0 (most + 1).toNat many m).map D.int = ol at *
    simp [f_offsets_numbered, m_offsets_numbered, e']
theorem pl_threes : ∀ (gs : List (Int × Nat × Int)), gs.length ≤ 1000 → pl 5 (.lst (gs.map threeD)) = true := fun gs h => by
  have s3 : (3 : Nat) ≤ szL := le_szL (by decide)
  have hz : gs.length ≤ szL := le_szL (by omega)
  simp [pl, threeD, s3, hz]
theorem ne_nil_three (gs : List (Int × Nat × Int)) (hz : gs.length ≤ 1000) : dNe (.lst (gs.map threeD)) (.lst []) = .ok (.bl (decide (gs ≠ []))) := by
  have s1 : shp (.lst (gs.map threeD)) = true := pl_shp (n := 5) (by decide) (pl_threes gs hz)
  have s2 : shp (.lst ([].map threeD)) = true := pl_shp (n := 5) (by decide) (pl_threes [] (by decide))
  have s2' : shp (.lst []) = true := s2
  unfold dNe
  rw [s1, s2']
  cases gs with
  | nil => rfl
  | cons p r => rfl
theorem prodN_bd : ∀ (gs : List (Int × Nat × Int)), tot gs ≤ 60 → (∀ g ∈ gs, g.2.2 ≤ 250) → (prodN gs : Int) ≤ 512 ^ tot gs
  | [], _, _ => by show ((1 : Nat) : Int) ≤ 512 ^ 0; decide
  | g :: gs, h, h3 => by
    have et : tot (g :: gs) = g.2.1 + tot gs := by unfold tot; rw [List.map_cons, List.sum_cons]
    rw [et] at h ⊢
    have i := prodN_bd gs (by omega) fun g hg => h3 g (List.mem_cons_of_mem _ hg)
    have hg := h3 g List.mem_cons_self
    obtain ⟨c0, c1⟩ := chosenZ_bd g.2.1 (g.2.2 + 1) (by omega) (by omega)
    rw [chosenZ_mc] at c1
    show ((mc (g.2.2 + 1).toNat g.2.1 * prodN gs : Nat) : Int) ≤ _
    rw [Int.natCast_mul, Int.pow_add]
    exact Int.mul_le_mul c1 i (by omega) (Int.le_trans (by omega) c1)
theorem rn_loop (n0 s0 : Option D) : ∀ (gs : List (Int × Nat × Int)) (fuel m : Nat) (A : List (Int × Int)) (x5 x6 x7 x8 x9 : Option D), gs.length < fuel → m < prodN gs → tot gs ≤ 60 → (∀ g ∈ gs, g.2.2 ≤ 250) → A.length + tot gs ≤ 1000 → gs.length ≤ 100 →
    ∃ m' y5 y6 y7 y8 y9, whileL (gTest (gBin dNe (gVar 3) (gLst VL.gNil))) b_row_numbered_1 fuel [n0, s0, some (.int m), some (.lst (gs.map threeD)), some (.lst (A.map twoD)), x5, x6, x7, x8, x9] = .nx [n0, s0, m', some (.lst []), some (.lst ((A ++ rnum gs m).map twoD)), y5, y6, y7, y8, y9]
  | gs, 0, m, A, _, _, _, _, _, h, _, _, _, _, _ => by omega
  | [], fuel + 1, m, A, x5, x6, x7, x8, x9, _, _, _, _, _, _ => by
    have t := ne_nil_three [] (by decide)
    have t' : dNe (.lst []) (.lst []) = .ok (.bl false) := t
    refine ⟨some (.int m), x5, x6, x7, x8, x9, ?_⟩
    rw [show A ++ rnum [] m = A from List.append_nil A]
    exact whileL_fin (by simp [t'])
  | (s, k, most) :: gs, fuel + 1, m, A, x5, x6, x7, x8, x9, h1, h2, h3, h4, h5, h6 => by
    have et : tot ((s, k, most) :: gs) = k + tot gs := by unfold tot; rw [List.map_cons, List.sum_cons]
    rw [List.length_cons] at h1 h6
    rw [et] at h3 h5
    have h4' : ∀ g ∈ gs, g.2.2 ≤ 250 := fun g hg => h4 g (List.mem_cons_of_mem _ hg)
    have hmost : most ≤ 250 := h4 _ List.mem_cons_self
    obtain ⟨a1, a2⟩ := rnum_lt (m := m) (show m < mc (most + 1).toNat k * prodN gs from h2)
    obtain ⟨ol1, -, -⟩ := onum_facts _ _ _ (Nat.le_refl _) 0 _ a1
    have on := on_ok k (m / prodN gs) most (by omega) hmost a1
    have pr := product_ok gs (by omega) fun g hg => by have := h4' g hg; omega
    rw [prodZ_N] at pr
    have pb := prodN_bd gs (by omega) h4'
    have pz : (0 : Int) < (prodN gs : Int) := by omega
    have dv : dFdiv (.int (m : Int)) (.int (prodN gs : Int)) = .ok (.int ((m / prodN gs : Nat) : Int)) := by
      rw [dFdiv_wide pz (small600 (by omega) pb (by omega)), Int.fdiv_eq_ediv_of_nonneg _ (by omega)]
      rfl
    have md : (m : Int).fmod (prodN gs : Int) = ((m % prodN gs : Nat) : Int) := by
      rw [Int.fmod_eq_emod_of_nonneg _ (by omega)]
      rfl
    obtain ⟨os, eos⟩ : ∃ os, os = onum 0 (most + 1).toNat k (m / prodN gs) := ⟨_, rfl⟩
    rw [← eos] at on ol1
    obtain ⟨m', y5, y6, y7, y8, y9, e⟩ := rn_loop n0 s0 gs fuel (m % prodN gs) (A ++ os.map fun o => (s, o)) (some (.int s)) (some (.int k)) (some (.int most)) (some (.int (prodN gs : Nat))) x9 (by omega) a2 (by omega) h4' (by simp; omega) (by omega)
    refine ⟨m', y5, y6, y7, y8, y9, ?_⟩
    have er : rnum ((s, k, most) :: gs) m = os.map (fun o => (s, o)) ++ rnum gs (m % prodN gs) := by rw [eos]; rfl
    rw [er, ← List.append_assoc, ← e]
    have t := ne_nil_three ((s, k, most) :: gs) (by simp; omega)
    have cp : ∀ B, gComp (gIter (gCall f_offsets_numbered (VL.gCons (gVar 6) (VL.gCons (gVar 7) (VL.gCons (gBin dFdiv (gVar 2) (gVar 8)) VL.gNil))))) (.one 9) [9] gYes (gTup (VL.gCons (gVar 5) (VL.gCons (gVar 9) VL.gNil))) [n0, s0, some (.int m), B, some (.lst (A.map twoD)), some (.int s), some (.int k), some (.int most), some (.int (prodN gs : Nat)), x9] = .ok (.lst (os.map fun o => twoD (s, o))) := fun B => by
      refine gComp_map (l := os) (F := D.int) ?_ fun o _ => by simp [gTurn, twoD]
      generalize os.map D.int = odl at *
      generalize ((m / prodN gs : Nat) : Int) = dd at *
      simp [dv, on, -dFdiv]
    have ea : (A ++ os.map fun o => (s, o)).map twoD = A.map twoD ++ os.map fun o => twoD (s, o) := by rw [List.map_append, List.map_map]; rfl
    rw [ea]
    have lz : (A.map twoD).length + (os.map fun o => twoD (s, o)).length ≤ szL := le_szL (by rw [List.length_map, List.length_map]; omega)
    have i0 : dIdx (.lst (((s, k, most) :: gs).map threeD)) (.int 0) = .ok (.tup [.int s, .int (k : Nat), .int most]) := dIdx_list (i := 0) rfl
    have ct : cutL (((s, k, most) :: gs).map threeD) (some 1) none = gs.map threeD := by
      rw [cutL_fromG (k := 1)]
      rfl
    have pz' : ¬ (prodN gs : Int) = 0 := by omega
    generalize ((m % prodN gs : Nat) : Int) = mm at *
    generalize ((prodN gs : Nat) : Int) = P at *
    generalize (os.map fun o => twoD (s, o)) = oo at *
    generalize A.map twoD = al at *
    generalize ((s, k, most) :: gs).map threeD = gg at *
    generalize gs.map threeD = g2 at *
    refine whileL_turn ?_ ?_
    · simp [t]
    · unfold b_row_numbered_1
      rw [seq_nx (r' := [n0, s0, some (.int m), some (.lst gg), some (.lst al), some (.int s), some (.int k), some (.int most), x8, x9]) (by simp [i0, -dIdx]),
        seq_nx (r' := [n0, s0, some (.int m), some (.lst g2), some (.lst al), some (.int s), some (.int k), some (.int most), x8, x9]) (by simp [ct]),
        seq_nx (r' := [n0, s0, some (.int m), some (.lst g2), some (.lst al), some (.int s), some (.int k), some (.int most), some (.int P), x9]) (by simp [pr])]
      simp [cp, lz, md, pz']
theorem flat_count (f : Int → Nat) (v : Int) : ∀ (L : List Int), L.Nodup → ((L.map fun s => List.replicate (f s) s).flatten).count v = if v ∈ L then f v else 0
  | [], _ => by simp
  | x :: L, h => by
    obtain ⟨h1, h2⟩ := List.nodup_cons.mp h
    rw [List.map_cons, List.flatten_cons, List.count_append, flat_count f v L h2, List.count_replicate]
    by_cases c : x = v
    · subst c
      rw [if_neg h1]
      simp
    · by_cases m : v ∈ L <;> simp [c, m, Ne.symm c]
theorem rnum_szs (n : Int) (ss : List Int) {m : Nat} (h : m < prodN (groupsZ n ss)) : (rnum (groupsZ n ss) m).map (·.1) = sortBy ltI ss := by
  rw [rnum_sizes _ _ h]
  unfold groupsZ
  rw [List.map_map]
  refine sortBy_of sto_I ?_ ?_
  · refine List.perm_iff_count.mpr fun v => ?_
    rw [show ((fun g : Int × Nat × Int => List.replicate g.2.1 g.1) ∘ fun s => (s, ss.count s, roomZ n ss s)) = fun s => List.replicate (ss.count s) s from rfl, flat_count _ v _ (nodup_lt (sortSet_lt ss))]
    split
    · rfl
    · rename_i c
      rw [sortSet_mem] at c
      exact (List.count_eq_zero.mpr c).symm
  · have key : ∀ L : List Int, L.Pairwise (· < ·) → ((L.map fun s => List.replicate (ss.count s) s).flatten).Pairwise (fun a b => ltI b a = false) ∧ ∀ a ∈ (L.map fun s => List.replicate (ss.count s) s).flatten, a ∈ L := by
      intro L
      induction L with
      | nil => exact fun _ => ⟨.nil, fun a h => by simp at h⟩
      | cons x L ih =>
        intro h
        obtain ⟨h1, h2⟩ := List.pairwise_cons.mp h
        obtain ⟨i1, i2⟩ := ih h2
        rw [List.map_cons, List.flatten_cons]
        refine ⟨List.pairwise_append.mpr ⟨List.pairwise_replicate.mpr (.inr (by simp [ltI])), i1, fun a ha b hb => ?_⟩, fun a ha => ?_⟩
        · rw [List.eq_of_mem_replicate ha]
          have := h1 b (i2 b hb)
          simp [ltI]
          omega
        · rcases List.mem_append.mp ha with w | w
          · rw [List.eq_of_mem_replicate w]; exact List.mem_cons_self
          · exact List.mem_cons_of_mem _ (i2 a w)
    exact (key _ (sortSet_lt ss)).1
def stones (ps : List (Int × Int)) : List Int := (stonesD (weight ps) ps).reverse
theorem sum_sizes : ∀ {ps : List (Int × Int)}, Posi ps → (ps.map fun p => p.1).sum = (weight ps : Int)
  | [], _ => rfl
  | p :: ps, h => by
    have ih := sum_sizes (ps := ps) fun q hq => h q (List.mem_cons_of_mem _ hq)
    have h1 := h p List.mem_cons_self
    simp only [List.map_cons, List.sum_cons, weight] at *
    omega

theorem fMax1_ints {l : List Int} (n : l ≠ []) : fMax1 [.lst (l.map D.int)] = .ok (.int (lmax l)) := by
  dsimp only [fMax1]
  rw [intsOf_map]
  dsimp only
  rw [if_neg n]
theorem next_place_ok (ps : List (Int × Int)) (n : ps ≠ []) : f_next_place [.lst (ps.map twoD)] = .ok (.int (topP ps)) := by
  have c : gComp (gIter (gVar 0)) (.tup [1, 2]) [1, 2] gYes (gBin dAdd (gVar 2) (gBin dMul (gC (.int 2)) (gCall f_share (VL.gCons (gVar 0) (VL.gCons (gVar 1) VL.gNil))))) [some (.lst (ps.map twoD)), none, none] = .ok (.lst (ps.map fun p => D.int (vac ps p))) :=
    gComp_map (F := twoD) rfl fun p _ => by simp [gTurn, twoD, share_ok, mul2, vac]
  have e : (ps.map fun p => D.int (vac ps p)) = (ps.map (vac ps)).map D.int := by rw [List.map_map]; rfl
  rw [e] at c
  have m := fMax1_ints (l := ps.map (vac ps)) (by simpa using n)
  generalize (ps.map (vac ps)).map D.int = vv at *
  simp [f_next_place, m_next_place, c, m, topP]
theorem shrink_len (ps : List (Int × Int)) (n : ps ≠ []) : (shrink ps (topP ps)).length ≤ ps.length := by
  have r : (rest ps (topP ps)).length + 1 = ps.length := (rest_cons n).length_eq.symm
  unfold shrink
  split
  · simp; omega
  · omega
theorem vac_iff (ps : List (Int × Int)) (p : Int × Int) (q : Int) : p.2 = q - 2 * share ps p.1 ↔ vac ps p = q := by
  unfold vac
  omega
theorem fMin1_ints {l : List Int} (n : l ≠ []) : fMin1 [.lst (l.map D.int)] = .ok (.int (lmin l)) := by
  dsimp only [fMin1]
  rw [intsOf_map]
  dsimp only
  rw [if_neg n]
theorem shortest_ripe_ok (ps : List (Int × Int)) (q : Int) (n : ripes ps q ≠ []) : f_shortest_ripe [.lst (ps.map twoD), .int q] = .ok (.int (shortest ps q)) := by
  have c := gComp_filter (gi := gIter (gVar 0)) (t := .tup [2, 3]) (vs := [2, 3]) (tt := gTest (gBin dEq (gVar 3) (gCall f_mark (VL.gCons (gVar 0) (VL.gCons (gVar 2) (VL.gCons (gVar 1) VL.gNil)))))) (ge := gVar 2)
    (r := [some (.lst (ps.map twoD)), some (.int q), none, none]) (l := ps) (F := twoD) (p := fun p => vac ps p == q) (G := fun p => D.int p.1) rfl (fun p _ => by
      have v := vac_iff ps p q
      by_cases c : p.2 = q - 2 * share ps p.1
      · simp [gTurn, twoD, mark_ok, c, v.mp c]
      · have c3 : ¬ vac ps p = q := fun z => c (v.mpr z)
        simp [gTurn, twoD, mark_ok, c, c3])
  have e : ((ps.filter fun p => vac ps p == q).map fun p => D.int p.1) = (ripes ps q).map D.int := by unfold ripes; rw [List.map_map]; rfl
  rw [e] at c
  have m := fMin1_ints n
  generalize (ripes ps q).map D.int = vv at *
  simp [f_shortest_ripe, m_shortest_ripe, c, m, shortest]
theorem shrunk_ok (ps : List (Int × Int)) (n : ps ≠ []) (hz : ps.length < 1000) : f_shrunk [.lst (ps.map twoD), .int (topP ps)] = .ok (.lst ((shrink ps (topP ps)).map twoD)) := by
  have e1 := shortest_ripe_ok ps (topP ps) (top_some n)
  have rm := remL_ok (x := (shortest ps (topP ps), topP ps - 2 * share ps (shortest ps (topP ps)))) (short_mem n) (le_szL (by omega))
  have l1 : (rest ps (topP ps)).length < szL := lt_szL (Nat.lt_of_le_of_lt List.length_erase_le (by omega))
  unfold shrink
  unfold rest at *
  generalize topP ps = t at *
  generalize shortest ps t = s at *
  generalize ps.erase (s, t - 2 * share ps s) = fr at *
  by_cases c : 1 < s
  · rw [if_pos c, ← app_pair]
    simp [f_shrunk, m_shrunk, e1, c, mark_ok, rm, share_ok, mul2, l1]
  · rw [if_neg c]
    simp [f_shrunk, m_shrunk, e1, c, mark_ok, rm]
theorem stones_loop : ∀ (n : Nat) (m : Nat) (ps : List (Int × Int)) (acc : List Int) (x : Option D), Posi ps → weight ps ≤ n → ps.length ≤ 900 → n < m → acc.length + n ≤ 10000 →
    ∃ x', whileL (gTest (gBin dNe (gVar 0) (gLst VL.gNil))) b_stones_of_1 m [some (.lst (ps.map twoD)), some (.lst (acc.map D.int)), x] = .nx [some (.lst []), some (.lst ((acc ++ stonesD n ps).map D.int)), x']
  | n, 0, _, _, _, _, _, _, h, _ => by omega
  | 0, m + 1, ps, acc, x, hp, w, hl, _, _ => by
    have e := weight_zero hp (by omega)
    subst e
    refine ⟨x, ?_⟩
    have t := ne_nil_two [] (by decide)
    have t' : dNe (.lst []) (.lst []) = .ok (.bl false) := t
    rw [whileL_fin (by simp [t'])]
    simp [stonesD]
  | n + 1, m + 1, ps, acc, x, hp, w, hl, hm, ha => by
    have t := ne_nil_two ps (by omega)
    by_cases e : ps = []
    · subst e
      have t' : dNe (.lst []) (.lst []) = .ok (.bl false) := t
      refine ⟨x, ?_⟩
      rw [whileL_fin (by simp [t'])]
      simp [stonesD]
    · have e1 := next_place_ok ps e
      have e2 := shrunk_ok ps e (by omega)
      have ws := weight_shrink e hp
      have sl := shrink_len ps e
      obtain ⟨x', ih⟩ := stones_loop n m (shrink ps (topP ps)) (acc ++ [topP ps]) (some (.int (topP ps))) (shrink_posi hp _) (by omega) (by omega) (by omega) (by simp; omega)
      refine ⟨x', ?_⟩
      have lz : acc.length < szL := lt_szL (by omega)
      rw [whileL_turn (r' := [some (.lst ((shrink ps (topP ps)).map twoD)), some (.lst ((acc ++ [topP ps]).map D.int)), some (.int (topP ps))]) (by simp [t, e]) (by simp [b_stones_of_1, e1, e2, lz]), ih]
      rw [stonesD_succ, if_neg e, List.append_assoc]
      rfl
theorem stones_of_ok (ps : List (Int × Int)) (h : Posi ps) (w : weight ps ≤ 5000) (hl : ps.length ≤ 900) : f_stones_of [.lst (ps.map twoD)] = .ok (.lst ((stones ps).map D.int)) := by
  obtain ⟨x, e⟩ := stones_loop (weight ps) WB ps [] none h (Nat.le_refl _) hl (by rw [WB_eq]; omega) (by simp; omega)
  rw [List.nil_append] at e
  have e' : whileL (gTest (gBin dNe (gVar 0) (gLst VL.gNil))) b_stones_of_1 WB [some (.lst (ps.map twoD)), some (.lst []), none] = _ := e
  simp [f_stones_of, m_stones_of, e', stones, List.map_reverse]

theorem row_numbered_any (n : Int) (ss : List Int) (hS : Siz ss) (h0 : 0 ≤ n) (h1 : n ≤ 200) (i : Int) : f_row_numbered [.int n, .lst (ss.map D.int), .int i] = if i < 0 ∨ (prodN (groupsZ n ss) : Int) ≤ i then .exc ⟨"BadNumber", none⟩ else .ok (.lst ((stones (rnum (groupsZ n ss) i.toNat)).map D.int)) := by
  have a := look_niches_ok n h0 h1
  have b := look_sizes_ok ss hS
  have hl := hS.len
  have c := groups_ok n ss (by omega)
  have tg := tot_groups n ss
  have gr : ∀ g ∈ groupsZ n ss, g.2.2 ≤ 250 := fun g hg => by
    obtain ⟨s, hs, rfl⟩ := List.mem_map.mp hg
    have := room_le n ss s hS.1 (hS.1 s ((sortSet_mem ss s).mp hs))
    show roomZ n ss s ≤ 250
    omega
  have d := product_ok (groupsZ n ss) (by omega) fun g hg => by have := gr g hg; omega
  rw [prodZ_N] at d
  by_cases neg : i < 0
  · rw [if_pos (.inl neg)]
    generalize (groupsZ n ss).map threeD = gg at *
    generalize ss.map D.int = sl at *
    simp [f_row_numbered, m_row_numbered, a, b, c, d, neg]
  · by_cases big : (prodN (groupsZ n ss) : Int) ≤ i
    · rw [if_pos (.inr big)]
      generalize prodN (groupsZ n ss) = P at *
      generalize (groupsZ n ss).map threeD = gg at *
      generalize ss.map D.int = sl at *
      simp [f_row_numbered, m_row_numbered, a, b, c, d, neg, big]
    · rw [if_neg (by omega)]
      obtain ⟨m, rfl⟩ : ∃ m : Nat, i = (m : Int) := ⟨i.toNat, by omega⟩
      have hm : m < prodN (groupsZ n ss) := by omega
      have gl : (groupsZ n ss).length ≤ 60 := by
        unfold groupsZ
        rw [List.length_map]
        have := sortSet_len ss
        omega
      obtain ⟨m', y5, y6, y7, y8, y9, e⟩ := rn_loop (some (.int n)) (some (.lst (ss.map D.int))) (groupsZ n ss) WB m [] none none none none none (by rw [WB_eq]; omega) hm (by omega) gr (by simp; omega) (by omega)
      rw [List.nil_append] at e
      have e' : whileL (gTest (gBin dNe (gVar 3) (gLst VL.gNil))) b_row_numbered_1 WB [some (.int n), some (.lst (ss.map D.int)), some (.int m), some (.lst ((groupsZ n ss).map threeD)), some (.lst []), none, none, none, none, none] = _ := e
      have po : Posi (rnum (groupsZ n ss) m) := fun p hp => by
        obtain ⟨g, hg, e, -⟩ := rnum_mem _ _ hm p hp
        obtain ⟨s, hs, rfl⟩ := List.mem_map.mp hg
        rw [e]
        exact hS.1 s ((sortSet_mem ss s).mp hs)
      have sz := rnum_szs n ss hm
      have ws := sum_sizes po
      have ws2 : (weight (rnum (groupsZ n ss) m) : Int) ≤ 60 := by
        rw [← ws, show ((rnum (groupsZ n ss) m).map fun p => p.1) = sortBy ltI ss from sz, sum_perm (sortBy_perm ss)]
        exact hS.2
      have ll : (rnum (groupsZ n ss) m).length = ss.length := by
        have := congrArg List.length sz
        rw [List.length_map, (sortBy_perm ss).length_eq] at this
        exact this
      have so := stones_of_ok (rnum (groupsZ n ss) m) po (by omega) (by omega)
      rw [Int.toNat_natCast]
      generalize (stones (rnum (groupsZ n ss) m)).map D.int = sr at *
      generalize (rnum (groupsZ n ss) m).map twoD = rl at *
      generalize prodN (groupsZ n ss) = P at *
      generalize (groupsZ n ss).map threeD = gg at *
      generalize ss.map D.int = sl at *
      simp [f_row_numbered, m_row_numbered, a, b, c, d, neg, big, e', so]

theorem am_turn (O A : Option D) (most f low : Int) (rest : Nat) (hr : rest ≤ 100) (hm : most ≤ 300) (h0 : 0 ≤ low) : b_number_among_1 [O, some (.int most), some (.int f), some (.int low), A, some (.int rest)] = .nx [O, some (.int most), some (.int (f + chosenZ rest (most - low + 1))), some (.int (low + 1)), A, some (.int rest)] := by
  have ch := chosen_ok rest hr (most - low + 1) (by omega)
  generalize chosenZ rest (most - low + 1) = c at *
  simp [b_number_among_1, ch, dIAdd, noX]
theorem am_whileX (os : List Int) (most : Int) (rest at_ : Nat) (q : Int) (hq : dIdx (.lst (os.map D.int)) (.int at_) = .ok (.int q)) (hr : rest ≤ 60) (hm : most ≤ 300) : ∀ (d fuel : Nat) (f low : Int), d < fuel → 0 ≤ low → low + d = q →
    whileL (gTest (gBin dLt (gVar 3) (gBin dIdx (gVar 0) (gVar 4)))) b_number_among_1 fuel [some (.lst (os.map D.int)), some (.int most), some (.int f), some (.int low), some (.int at_), some (.int rest)] = .nx [some (.lst (os.map D.int)), some (.int most), some (.int (f + (rsum rest (most - low + 1).toNat d : Nat))), some (.int q), some (.int at_), some (.int rest)] := by
  intro d
  induction d with
  | zero =>
    intro fuel f low h1 h0 h2
    obtain ⟨n, rfl⟩ : ∃ k, fuel = k + 1 := ⟨fuel - 1, by omega⟩
    have e : low = q := by omega
    subst e
    rw [show f + ((rsum rest (most - low + 1).toNat 0 : Nat) : Int) = f from Int.add_zero f]
    refine whileL_fin ?_
    generalize os.map D.int = ol at *
    simp [hq, -dIdx]
  | succ d ih =>
    intro fuel f low h1 h0 h2
    obtain ⟨n, rfl⟩ : ∃ k, fuel = k + 1 := ⟨fuel - 1, by omega⟩
    have c : low < q := by omega
    have e := ih n (f + chosenZ rest (most - low + 1)) (low + 1) (by omega) (by omega) (by omega)
    have ef : f + ((rsum rest (most - low + 1).toNat (d + 1) : Nat) : Int) = f + chosenZ rest (most - low + 1) + ((rsum rest (most - (low + 1) + 1).toNat d : Nat) : Int) := by
      rw [chosenZ_mc, show (most - (low + 1) + 1).toNat = (most - low + 1).toNat - 1 by omega]
      show f + ((mc _ rest + rsum rest _ d : Nat) : Int) = _
      omega
    rw [ef, ← e]
    refine whileL_turn ?_ (am_turn _ _ most f low rest (by omega) hm h0)
    generalize os.map D.int = ol at *
    simp [hq, c, -dIdx]
theorem am_loopX (most : Int) (hm : most ≤ 300) : ∀ (suf pre : List Int) (f low : Int) (a b : Option D), (pre ++ suf).length ≤ 60 → (∀ q ∈ suf, low ≤ q ∧ q ≤ 200) → suf.Pairwise (· ≤ ·) → 0 ≤ low →
    ∃ low' a' b', forL (.one 4) b_number_among_2 ((List.range' pre.length suf.length).map fun (i : Nat) => D.int i) [some (.lst ((pre ++ suf).map D.int)), some (.int most), some (.int f), some (.int low), a, b] = .nx [some (.lst ((pre ++ suf).map D.int)), some (.int most), some (.int (f + (rank low (most - low + 1).toNat suf : Nat))), low', a', b']
  | [], pre, f, low, a, b, _, _, _, _ => ⟨some (.int low), a, b, by rw [show f + ((rank low (most - low + 1).toNat [] : Nat) : Int) = f from Int.add_zero f]; rfl⟩
  | o :: suf, pre, f, low, a, b, hl, ho, hs, h0 => by
    obtain ⟨hs1, hs2⟩ := List.pairwise_cons.mp hs
    obtain ⟨o1, o2⟩ := ho o List.mem_cons_self
    have ll : (pre ++ o :: suf).length = pre.length + suf.length + 1 := by simp; omega
    have e1 : dIdx (.lst ((pre ++ o :: suf).map D.int)) (.int (pre.length : Nat)) = .ok (.int o) := by
      rw [int_in (i := pre.length) (by omega) rfl]
      simp
    obtain ⟨d, hd⟩ : ∃ d : Nat, low + d = o := ⟨(o - low).toNat, by omega⟩
    have e2 := am_whileX (pre ++ o :: suf) most suf.length pre.length o e1 (by omega) hm d WB f low (by rw [WB_eq]; omega) h0 hd
    have ea : pre ++ o :: suf = (pre ++ [o]) ++ suf := by simp
    obtain ⟨low', a', b', e⟩ := am_loopX most hm suf (pre ++ [o]) (f + (rsum suf.length (most - low + 1).toNat d : Nat)) o (some (.int (pre.length : Nat))) (some (.int (suf.length : Nat))) (by rw [← ea]; exact hl) (fun q hq => ⟨hs1 q hq, (ho q (List.mem_cons_of_mem _ hq)).2⟩) hs2 (by omega)
    rw [← ea] at e
    have er : f + ((rank low (most - low + 1).toNat (o :: suf) : Nat) : Int) = f + ((rsum suf.length (most - low + 1).toNat d : Nat) : Int) + ((rank o (most - o + 1).toNat suf : Nat) : Int) := by
      show f + ((rsum suf.length (most - low + 1).toNat (o - low).toNat + rank o ((most - low + 1).toNat - (o - low).toNat) suf : Nat) : Int) = _
      rw [show (o - low).toNat = d by omega, show (most - low + 1).toNat - d = (most - o + 1).toNat by omega]
      omega
    rw [er]
    refine ⟨low', a', b', ?_⟩
    rw [List.length_cons, List.range'_succ, List.map_cons, ← e, show (pre ++ [o]).length = pre.length + 1 by simp]
    refine forL_step (xs := [.int (pre.length : Nat)]) rfl ?_
    show b_number_among_2 [some (.lst ((pre ++ o :: suf).map D.int)), some (.int most), some (.int f), some (.int low), some (.int (pre.length : Nat)), b] = .nx [some (.lst ((pre ++ o :: suf).map D.int)), some (.int most), some (.int (f + (rsum suf.length (most - low + 1).toNat d : Nat))), some (.int o), some (.int (pre.length : Nat)), some (.int (suf.length : Nat))]
    have hlen : fLen [.lst ((pre ++ o :: suf).map D.int)] = .ok (.int ((pre ++ o :: suf).length : Nat)) := by simp [fLen]
    have hsz : ((pre ++ o :: suf).length : Int) - (pre.length : Int) - 1 = (suf.length : Int) := by omega
    unfold b_number_among_2
    rw [seq_nx (r' := [some (.lst ((pre ++ o :: suf).map D.int)), some (.int most), some (.int f), some (.int low), some (.int (pre.length : Nat)), some (.int (suf.length : Nat))]) (by
      rw [← hsz]
      generalize ((pre ++ o :: suf).length : Int) = L at *
      generalize (pre ++ o :: suf).map D.int = ol at *
      simp [hlen, -fLen]), seq_nx e2]
    rfl
def okPair (a b : Int × Int) : Bool := !(decide (b.2 - b.1 + 1 < a.2 - a.1 + 1) || decide (b.1 - a.2 - 1 < a.2 - a.1 + 1))
def okAt (rs : List (Int × Int)) (k : Nat) : Bool := okPair (rs.getD (k - 1) (0, 0)) (rs.getD k (0, 0))
def rk (rs : List (Int × Int)) : Bool := (List.range' 1 (rs.length - 1)).all (okAt rs)
theorem among_X (os : List Int) (most : Int) (hM : os.length ≤ 60) (hm : most ≤ 300) (ho : ∀ q ∈ os, 0 ≤ q ∧ q ≤ 200) (hs : os.Pairwise (· ≤ ·)) : f_number_among [.lst (os.map D.int), .int most] = .ok (.int (rank 0 (most + 1).toNat os : Nat)) := by
  obtain ⟨low', a', b', e⟩ := am_loopX most hm os [] 0 0 none none (by simpa using hM) ho hs (by decide)
  rw [List.nil_append, Int.zero_add, Int.sub_zero] at e
  have d : dRange1 (.int (os.length : Int)) = _ := dRange1_nat (by omega)
  have hlen : fLen [.lst (os.map D.int)] = .ok (.int (os.length : Nat)) := by simp [fLen]
  rw [List.length_nil, ← List.range_eq_range'] at e
  have e' : forL (.one 4) b_number_among_2 ((List.range os.length).map fun (i : Nat) => D.int i) [some (.lst (os.map D.int)), some (.int most), some (.int 0), some (.int 0), none, none] = _ := e
  generalize (List.range os.length).map (fun (i : Nat) => D.int i) = rr at *
  generalize rank 0 (most + 1).toNat os = rk at *
  generalize os.map D.int = ol at *
  simp [f_number_among, m_number_among, hlen, d, e', -fLen]
theorem pow512 {a b : Nat} (h : a ≤ b) : (512 : Int) ^ a ≤ 512 ^ b := by
  have e : ∀ k : Nat, ((512 ^ k : Nat) : Int) = (512 : Int) ^ k := fun k => by rw [Int.natCast_pow]; rfl
  rw [← e, ← e]
  exact Int.ofNat_le.mpr (Nat.pow_le_pow_right (by decide) h)
theorem pow512_pos (a : Nat) : (1 : Int) ≤ 512 ^ a := by
  have := pow512 (a := 0) (b := a) (Nat.zero_le _)
  rwa [Int.pow_zero] at this
theorem am_while (os : List Int) (most : Int) (rest at_ M : Nat) (q : Int) (hq : dIdx (.lst (os.map D.int)) (.int at_) = .ok (.int q)) (hr : rest ≤ M) (hM : M ≤ 60) (hm : most ≤ 300) : ∀ (j fuel : Nat) (f low : Int), j < fuel → 0 ≤ low → q - low ≤ j → 0 ≤ f → f ≤ low * 512 ^ M → low ≤ 200 → q ≤ 200 →
    ∃ f' low', whileL (gTest (gBin dLt (gVar 3) (gBin dIdx (gVar 0) (gVar 4)))) b_number_among_1 fuel [some (.lst (os.map D.int)), some (.int most), some (.int f), some (.int low), some (.int at_), some (.int rest)] = .nx [some (.lst (os.map D.int)), some (.int most), some (.int f'), some (.int low'), some (.int at_), some (.int rest)] ∧ 0 ≤ f' ∧ f' ≤ low' * 512 ^ M ∧ 0 ≤ low' ∧ low' ≤ 200 := by
  intro j
  induction j with
  | zero =>
    intro fuel f low h1 h0 h2 f0 f1 l2 q2
    obtain ⟨n, rfl⟩ : ∃ k, fuel = k + 1 := ⟨fuel - 1, by omega⟩
    refine ⟨f, low, whileL_fin ?_, f0, f1, h0, l2⟩
    have : ¬ low < q := by omega
    generalize os.map D.int = ol at *
    simp [hq, this, -dIdx]
  | succ j ih =>
    intro fuel f low h1 h0 h2 f0 f1 l2 q2
    obtain ⟨n, rfl⟩ : ∃ k, fuel = k + 1 := ⟨fuel - 1, by omega⟩
    by_cases c : low < q
    · obtain ⟨c0, c1⟩ := chosenZ_bd rest (most - low + 1) (by omega) (by omega)
      have c2 := Int.le_trans c1 (pow512 hr)
      have b : f + chosenZ rest (most - low + 1) ≤ (low + 1) * 512 ^ M := by
        rw [Int.add_mul, Int.one_mul]
        omega
      obtain ⟨f', low', e, r⟩ := ih n (f + chosenZ rest (most - low + 1)) (low + 1) (by omega) (by omega) (by omega) (by omega) b (by omega) q2
      refine ⟨f', low', ?_, r⟩
      rw [← e]
      refine whileL_turn ?_ (am_turn _ _ most f low rest (by omega) hm h0)
      generalize os.map D.int = ol at *
      simp [hq, c, -dIdx]
    · refine ⟨f, low, whileL_fin ?_, f0, f1, h0, l2⟩
      generalize os.map D.int = ol at *
      simp [hq, c, -dIdx]
theorem int_getD {r : List Int} {k : Nat} (h : k < r.length) {j : Int} (hj : j = (k : Int)) : dIdx (.lst (r.map D.int)) (.int j) = .ok (.int (r.getD k 0)) := by
  rw [int_in h hj, List.getD_eq_getElem?_getD, List.getElem?_eq_getElem h]
  rfl
theorem am_loop (os : List Int) (most : Int) (hM : os.length ≤ 60) (hm : most ≤ 300) (ho : ∀ q ∈ os, q ≤ 200) : ∀ (j k : Nat) (f low : Int) (a b : Option D), k + j = os.length → 0 ≤ low → low ≤ 200 → 0 ≤ f → f ≤ low * 512 ^ os.length →
    ∃ f' low' a' b', forL (.one 4) b_number_among_2 ((List.range' k j).map fun (i : Nat) => D.int i) [some (.lst (os.map D.int)), some (.int most), some (.int f), some (.int low), a, b] = .nx [some (.lst (os.map D.int)), some (.int most), some (.int f'), some (.int low'), a', b'] ∧ 0 ≤ f' ∧ f' ≤ low' * 512 ^ os.length ∧ 0 ≤ low' ∧ low' ≤ 200
  | 0, k, f, low, a, b, _, h0, h1, f0, f1 => ⟨f, low, a, b, rfl, f0, f1, h0, h1⟩
  | j + 1, k, f, low, a, b, hk, h0, h1, f0, f1 => by
    have e1 := int_getD (r := os) (k := k) (by omega) (j := (k : Int)) rfl
    have hq : os.getD k 0 ≤ 200 := by
      rw [List.getD_eq_getElem?_getD, List.getElem?_eq_getElem (by omega)]
      exact ho _ (List.getElem_mem _)
    obtain ⟨f1', low1, e2, g0, g1, l0, l1⟩ := am_while os most (os.length - k - 1) k os.length (os.getD k 0) e1 (by omega) hM hm 200 WB f low (by rw [WB_eq]; omega) h0 (by omega) f0 f1 h1 hq
    obtain ⟨f', low', a', b', e, r⟩ := am_loop os most hM hm ho j (k + 1) f1' low1 (some (.int k)) (some (.int ((os.length - k - 1 : Nat) : Int))) (by omega) l0 l1 g0 g1
    refine ⟨f', low', a', b', ?_, r⟩
    rw [List.range'_succ, List.map_cons, ← e]
    refine forL_step (xs := [.int k]) rfl ?_
    show b_number_among_2 [some (.lst (os.map D.int)), some (.int most), some (.int f), some (.int low), some (.int k), b] = .nx [some (.lst (os.map D.int)), some (.int most), some (.int f1'), some (.int low1), some (.int k), some (.int ((os.length - k - 1 : Nat) : Int))]
    have hlen : ((os.map D.int).length : Int) = (os.length : Int) := by rw [List.length_map]
    have hs : (os.length : Int) - (k : Int) - 1 = ((os.length - k - 1 : Nat) : Int) := by omega
    unfold b_number_among_2
    rw [seq_nx (r' := [some (.lst (os.map D.int)), some (.int most), some (.int f), some (.int low), some (.int k), some (.int ((os.length - k - 1 : Nat) : Int))]) (by rw [← hs]; generalize hol : os.map D.int = ol at *; simp [hlen]), seq_nx e2]
    rfl
theorem among_ok (os : List Int) (most : Int) (hM : os.length ≤ 60) (hm : most ≤ 300) (ho : ∀ q ∈ os, q ≤ 200) : ∃ v : Int, f_number_among [.lst (os.map D.int), .int most] = .ok (.int v) ∧ 0 ≤ v ∧ v ≤ 200 * 512 ^ os.length := by
  obtain ⟨f', low', a', b', e, f0, f1, l0, l1⟩ := am_loop os most hM hm ho os.length 0 0 0 none none (by omega) (by decide) (by decide) (by decide) (by rw [Int.zero_mul]; decide)
  have d : dRange1 (.int (os.length : Int)) = _ := dRange1_nat (by omega)
  have hlen : ((os.map D.int).length : Int) = (os.length : Int) := by rw [List.length_map]
  rw [← List.range_eq_range'] at e
  have p := pow512_pos os.length
  refine ⟨f', ?_, f0, Int.le_trans f1 (Int.mul_le_mul_of_nonneg_right l1 (by omega))⟩
  generalize (List.range os.length).map (fun (i : Nat) => D.int i) = rr at *
  generalize os.map D.int = ol at *
  simp [f_number_among, m_number_among, hlen, d, e]
theorem nof_loopX (n0 rw0 : Option D) (ps : List (Int × Int)) (hz : ps.length ≤ 60) (ho : ∀ z ∈ ps, 0 ≤ z.2 ∧ z.2 ≤ 200) (hs : ps.Pairwise fun a b => a.1 < b.1 ∨ a.1 = b.1 ∧ a.2 ≤ b.2) : ∀ (gs : List (Int × Nat × Int)) (num : Int) (a : Nat) (x4 x5 x6 x7 x8 x9 : Option D), 0 ≤ num → num ≤ 512 ^ (62 + a) → a + gs.length + tot gs ≤ 130 → (∀ g ∈ gs, g.2.1 ≤ 60 ∧ g.2.2 ≤ 300) →
    ∃ y4 y5 y6 y7 y8 y9, forL (.tup [4, 5, 6]) b_number_of_1 (gs.map threeD) [n0, rw0, some (.lst (ps.map twoD)), some (.int num), x4, x5, x6, x7, x8, x9] = .nx [n0, rw0, some (.lst (ps.map twoD)), some (.int (num * (prodN gs : Nat) + (numZ ps gs : Nat))), y4, y5, y6, y7, y8, y9]
  | [], num, a, x4, x5, x6, x7, x8, x9, _, _, _, _ => ⟨x4, x5, x6, x7, x8, x9, by rw [show num * ((prodN [] : Nat) : Int) + ((numZ ps [] : Nat) : Int) = num from by show num * ((1 : Nat) : Int) + ((0 : Nat) : Int) = num; omega]; rfl⟩
  | (s, m, t) :: gs, num, a, x4, x5, x6, x7, x8, x9, h0, h1, h2, h3 => by
    have et : tot ((s, m, t) :: gs) = m + tot gs := by unfold tot; rw [List.map_cons, List.sum_cons]
    rw [List.length_cons, et] at h2
    obtain ⟨hm, ht⟩ : m ≤ 60 ∧ t ≤ 300 := h3 _ List.mem_cons_self
    obtain ⟨c0, c1⟩ := chosenZ_bd m (t + 1) (by omega) (by omega)
    obtain ⟨os, eos⟩ : ∃ os : List Int, os = (ps.filter fun p => decide (p.1 = s)).map (·.2) := ⟨_, rfl⟩
    have osl : os.length ≤ 60 := by
      rw [eos, List.length_map]
      have := List.length_filter_le (fun p : Int × Int => decide (p.1 = s)) ps
      omega
    have oso : ∀ q ∈ os, 0 ≤ q ∧ q ≤ 200 := fun q hq => by
      rw [eos] at hq
      obtain ⟨z, hz2, rfl⟩ := List.mem_map.mp hq
      exact ho z (List.mem_filter.mp hz2).1
    have oss : os.Pairwise (· ≤ ·) := by
      rw [eos]
      refine List.pairwise_map.mpr ?_
      refine List.Pairwise.imp_of_mem ?_ (hs.filter (fun p => decide (p.1 = s)))
      intro x y hx hy q
      have a1 : x.1 = s := by simpa using (List.mem_filter.mp hx).2
      have a2 : y.1 = s := by simpa using (List.mem_filter.mp hy).2
      omega
    obtain ⟨v, ev, v0, v1⟩ := among_ok os t osl ht fun q hq => (oso q hq).2
    have ex := among_X os t osl ht oso oss
    have vr : v = ((rank 0 (t + 1).toNat os : Nat) : Int) := by
      rw [ex] at ev
      injection ev with z
      injection z with z
      exact z.symm
    have ch := chosen_ok m (by omega) (t + 1) (by omega)
    have mm : dMul (.int num) (.int (chosenZ m (t + 1))) = _ := dMul_ok (mulOk_wide (small600 h0 h1 (by omega)) (small600 c0 c1 (by omega)))
    have v2 : v ≤ 512 ^ 62 := by
      have b : (200 : Int) * 512 ^ os.length ≤ 512 ^ 62 := by
        have b1 : (512 : Int) ^ os.length ≤ 512 ^ 60 := pow512 osl
        have b2 : (512 : Int) ^ 62 = 512 ^ 60 * 262144 := by rw [show (62 : Nat) = 60 + 2 from rfl, Int.pow_add]; rfl
        have b3 := pow512_pos 60
        rw [b2]
        generalize (512 : Int) ^ 60 = P at *
        generalize (512 : Int) ^ os.length = Q at *
        omega
      omega
    have nb : num * chosenZ m (t + 1) + v ≤ 512 ^ (62 + (a + 1 + m)) := by
      have b1 : num * chosenZ m (t + 1) ≤ 512 ^ (62 + a) * 512 ^ m := Int.mul_le_mul h1 c1 c0 (Int.le_trans h0 h1)
      rw [← Int.pow_add] at b1
      have b2 : (512 : Int) ^ 62 ≤ 512 ^ (62 + a + m) := pow512 (by omega)
      have b3 : (512 : Int) ^ (62 + (a + 1 + m)) = 512 ^ (62 + a + m) * 512 := by rw [show 62 + (a + 1 + m) = 62 + a + m + 1 by omega, Int.pow_succ]
      have b4 := pow512_pos (62 + a + m)
      rw [b3]
      generalize (512 : Int) ^ (62 + a + m) = P at *
      omega
    obtain ⟨y4, y5, y6, y7, y8, y9, e⟩ := nof_loopX n0 rw0 ps hz ho hs gs (num * chosenZ m (t + 1) + v) (a + 1 + m) (some (.int s)) (some (.int m)) (some (.int t)) x7 (some (.lst (os.map D.int))) x9 (by have := Int.mul_nonneg h0 c0; omega) nb (by omega) fun g hg => h3 g (List.mem_cons_of_mem _ hg)
    refine ⟨y4, y5, y6, y7, y8, y9, ?_⟩
    have en : num * ((prodN ((s, m, t) :: gs) : Nat) : Int) + ((numZ ps ((s, m, t) :: gs) : Nat) : Int) = (num * chosenZ m (t + 1) + v) * ((prodN gs : Nat) : Int) + ((numZ ps gs : Nat) : Int) := by
      rw [vr, chosenZ_mc, eos]
      show num * ((mc (t + 1).toNat m * prodN gs : Nat) : Int) + ((rank 0 (t + 1).toNat (offs ps s) * prodN gs + numZ ps gs : Nat) : Int) = _
      show _ = (num * ((mc (t + 1).toNat m : Nat) : Int) + ((rank 0 (t + 1).toNat (offs ps s) : Nat) : Int)) * ((prodN gs : Nat) : Int) + ((numZ ps gs : Nat) : Int)
      rw [Int.natCast_add, Int.natCast_mul, Int.natCast_mul, Int.add_mul, Int.mul_assoc, Int.add_assoc]
    rw [en, List.map_cons, ← e]
    refine forL_step (xs := [.int s, .int m, .int t]) rfl ?_
    show b_number_of_1 [n0, rw0, some (.lst (ps.map twoD)), some (.int num), some (.int s), some (.int m), some (.int t), x7, x8, x9] = .nx [n0, rw0, some (.lst (ps.map twoD)), some (.int (num * chosenZ m (t + 1) + v)), some (.int s), some (.int m), some (.int t), x7, some (.lst (os.map D.int)), x9]
    have cp : gComp (gIter (gVar 2)) (.tup [9, 7]) [9, 7] (gTest (gBin dEq (gVar 9) (gVar 4))) (gVar 7) [n0, rw0, some (.lst (ps.map twoD)), some (.int num), some (.int s), some (.int m), some (.int t), x7, x8, x9] = .ok (.lst (os.map D.int)) := by
      rw [eos, List.map_map]
      refine gComp_filter (l := ps) (F := twoD) (p := fun p => decide (p.1 = s)) (G := D.int ∘ fun p => p.2) rfl fun p _ => ?_
      by_cases c : p.1 = s <;> simp [gTurn, twoD, c]
    generalize chosenZ m (t + 1) = cz at *
    generalize os.map D.int = ol at *
    generalize ps.map twoD = pl0 at *
    simp [b_number_of_1, cp, ch, mm, ev, -dMul]
theorem share_nn {ps : List (Int × Int)} (h : Posi ps) {s : Int} (hs : 0 ≤ s) : 0 ≤ share ps s := by
  induction ps with
  | nil => exact Int.le_refl _
  | cons p ps ih =>
    rw [share_cons]
    have a := h p List.mem_cons_self
    have b := ih fun q hq => h q (List.mem_cons_of_mem _ hq)
    unfold lsr
    split <;> omega
theorem grow_off {ps : List (Int × Int)} (h : Posi ps) {B p : Int} (hb : ∀ z ∈ ps, z.2 ≤ B) (hp : p ≤ B) : ∀ z ∈ grow ps p, z.2 ≤ B := fun z hz => by
  have n0 := longest_nonneg h (p - 1)
  unfold grow at hz
  rcases List.mem_append.mp hz with m | m
  · split at m
    · exact hb z (List.mem_of_mem_erase m)
    · exact hb z m
  · have e := List.mem_singleton.mp m
    rw [e]
    have sn : 0 ≤ share (if 0 < longest ps (p - 1) then ps.erase (longest ps (p - 1), p - 1 - 2 * share ps (longest ps (p - 1))) else ps) (longest ps (p - 1) + 1) := by
      refine share_nn (fun q hq => ?_) (by omega)
      split at hq
      · exact h q (List.mem_of_mem_erase hq)
      · exact h q hq
    show p - 2 * _ ≤ B
    omega
theorem grows_off : ∀ (r : List Int) {ps : List (Int × Int)} {B : Int}, Posi ps → (∀ z ∈ ps, z.2 ≤ B) → (∀ p ∈ r, p ≤ B) → ∀ z ∈ r.foldl grow ps, z.2 ≤ B
  | [], _, _, _, hb, _ => hb
  | p :: r, ps, B, h, hb, hp => grows_off r (ps := grow ps p) (grow_posi h p) (grow_off h hb (hp p List.mem_cons_self)) fun q hq => hp q (List.mem_cons_of_mem _ hq)
/-- the trains in the order in which they came -/
def heap (r : List Int) : List (Int × Int) := r.foldl grow []
def lists (r : List Int) : List (Int × Int) := sortBy ltII (heap r)
theorem lists_off (r : List Int) (B : Int) (hp : ∀ p ∈ r, p ≤ B) : ∀ z ∈ lists r, z.2 ≤ B := fun z hz =>
  grows_off r (ps := []) (fun p hp => (nomatch hp)) (fun p hp => (nomatch hp)) hp z ((sortBy_perm _).mem_iff.mp hz)
theorem lists_posi (r : List Int) : Posi (lists r) := fun p hp => grows_posi r (ps := []) (fun p hp => (nomatch hp)) p ((sortBy_perm _).mem_iff.mp hp)
theorem weight_grow {ps : List (Int × Int)} (h : Posi ps) (p : Int) : weight (grow ps p) = weight ps + 1 := by
  have n0 := longest_nonneg h (p - 1)
  unfold grow
  rw [weight_app]
  by_cases c : 0 < longest ps (p - 1)
  · rw [if_pos c]
    have w := weight_perm (List.perm_cons_erase (longest_mem c))
    generalize longest ps (p - 1) = s at *
    generalize ps.erase (s, p - 1 - 2 * share ps s) = fr at *
    simp [weight] at *
    omega
  · rw [if_neg c]
    have z : longest ps (p - 1) = 0 := by omega
    rw [z]
    simp [weight]
theorem weight_grows : ∀ (r : List Int) {ps : List (Int × Int)}, Posi ps → weight (r.foldl grow ps) = weight ps + r.length
  | [], _, _ => rfl
  | p :: r, ps, h => by
    rw [List.foldl_cons, weight_grows r (grow_posi h p), weight_grow h p, List.length_cons]
    omega
theorem lists_weight (r : List Int) : weight (lists r) = r.length := by
  unfold lists heap
  rw [weight_perm (sortBy_perm _), weight_grows r (ps := []) (fun p hp => (nomatch hp))]
  simp [weight]
theorem ss_of (r : List Int) (hl : r.length ≤ 60) : Siz ((lists r).map (·.1)) := by
  have h := lists_posi r
  have w := lists_weight r
  refine ⟨fun s hs => ?_, ?_⟩
  · obtain ⟨p, hp, rfl⟩ := List.mem_map.mp hs
    exact h p hp
  · have e := sum_sizes h
    rw [show ((lists r).map fun p => p.1) = (lists r).map (·.1) from rfl] at e
    rw [e]
    omega
theorem sorted_pw (ps : List (Int × Int)) : (sortBy ltII ps).Pairwise fun p q => p.1 < q.1 ∨ (p.1 = q.1 ∧ p.2 ≤ q.2) := by
  refine List.Pairwise.imp (fun {a b} (h : ltII b a = false) => ?_) (sortBy_srt sto_II ps)
  unfold ltII at h
  simp at h
  omega
theorem look_loop (r : List Int) (h : Rising r) : ∀ (n k : Nat) (a : Option D), 1 ≤ k → k + n ≤ r.length → ∃ a', forL (.one 1) b_look_row_1 ((List.range' k n).map fun (i : Nat) => D.int i) [some (.lst (r.map D.int)), a] = .nx [some (.lst (r.map D.int)), a']
  | 0, k, a, _, _ => ⟨a, rfl⟩
  | n + 1, k, a, h1, h2 => by
    obtain ⟨a', e⟩ := look_loop r h n (k + 1) (some (.int (k : Int))) (by omega) (by omega)
    refine ⟨a', ?_⟩
    have lt : r[k - 1] < r[k] := List.pairwise_iff_getElem.mp h (k - 1) k (by omega) (by omega) (by omega)
    have e1 := int_in (l := r) (i := k) (by omega) (j := (k : Int)) rfl
    have e2 := int_in (l := r) (i := k - 1) (by omega) (j := (k : Int) - 1) (by omega)
    have nle : ¬ r[k] ≤ r[k - 1] := by omega
    generalize r[k] = x at *
    generalize r[k - 1] = y at *
    have b : b_look_row_1 [some (.lst (r.map D.int)), some (.int (k : Int))] = .nx [some (.lst (r.map D.int)), some (.int (k : Int))] := by
      simp [b_look_row_1, e1, e2, nle, -dIdx]
    rw [List.range'_succ, List.map_cons, ← e]
    show (match b_look_row_1 [some (.lst (r.map D.int)), some (.int (k : Int))] with
      | .nx r' => forL (.one 1) b_look_row_1 ((List.range' (k + 1) n).map fun (i : Nat) => D.int i) r'
      | o => o) = _
    rw [b]
theorem look_row_ok (r : List Int) (h : Rising r) (hl : r.length ≤ 60) : f_look_row [.lst (r.map D.int)] = .ok .non := by
  have d : dRange2 (.int 1) (.int (r.length : Int)) = _ := dRange2_gen 1 r.length (by decide) (by omega)
  have c : ¬ (60 : Int) < (r.length : Int) := by omega
  by_cases z : r.length = 0
  · have z' : r = [] := List.length_eq_zero_iff.mp z
    subst z'
    have d' : dRange2 (.int 1) (.int 0) = .ok [] := d
    simp [f_look_row, m_look_row, d', forL]
  · obtain ⟨a', e⟩ := look_loop r h (r.length - 1) 1 none (by omega) (by omega)
    generalize (List.range' 1 (r.length - 1)).map (fun (i : Nat) => D.int i) = rr at *
    simp [f_look_row, m_look_row, d, e, c]
def soberK (n : Int) (r : List Int) (k : Nat) : Bool := !(decide (r.getD k 0 < 2 * (k : Int) + 2) || decide (n < r.getD k 0))
def soberB (n : Int) (r : List Int) : Bool := (List.range r.length).all (soberK n r)
theorem is_sober_ok (n : Int) (r : List Int) (hl : r.length ≤ 500) : f_is_sober [.int n, .lst (r.map D.int)] = .ok (.bl (soberB n r)) := by
  have hlen : ((r.map D.int).length : Int) = (r.length : Int) := by rw [List.length_map]
  have d : dRange1 (.int (r.length : Int)) = _ := dRange1_nat (by omega)
  obtain ⟨r', ⟨a, hr⟩, e⟩ := forL_test (fun (i : Nat) => D.int i) (soberK n r) (fun t => ∃ a, t = [some (.int n), some (.lst (r.map D.int)), a]) (.one 2) b_is_sober_1 (.bl false) (List.range r.length) [some (.int n), some (.lst (r.map D.int)), none] ⟨none, rfl⟩ (fun k hk t ⟨a, e⟩ => by
    subst e
    have hk' := List.mem_range.mp hk
    have e1 := int_getD (r := r) (k := k) hk' (j := (k : Int)) rfl
    have m := mul2 (k : Int)
    refine ⟨[.int k], [some (.int n), some (.lst (r.map D.int)), some (.int k)], rfl, ⟨_, rfl⟩, ?_⟩
    show b_is_sober_1 [some (.int n), some (.lst (r.map D.int)), some (.int k)] = _
    unfold soberK
    generalize r.getD k 0 = x at *
    by_cases q1 : x < 2 * (k : Int) + 2
    · simp [b_is_sober_1, e1, q1, m, -dIdx]
    · by_cases q2 : n < x
      · simp [b_is_sober_1, e1, q1, q2, m, -dIdx]
      · simp [b_is_sober_1, e1, q1, q2, m, -dIdx])
  subst hr
  unfold soberB
  generalize (List.range r.length).map (fun (i : Nat) => D.int i) = rr at *
  cases q : (List.range r.length).all (soberK n r)
  · rw [q, if_neg (by simp)] at e
    simp [f_is_sober, m_is_sober, d, e]
  · rw [q, if_pos rfl] at e
    simp [f_is_sober, m_is_sober, d, e]
theorem soberB_iff (n : Int) (r : List Int) : soberB n r = true ↔ ∀ k (h : k < r.length), 2 * (k : Int) + 2 ≤ r[k] ∧ r[k] ≤ n := by
  unfold soberB
  rw [List.all_eq_true]
  constructor
  · intro h k hk
    have := h k (List.mem_range.mpr hk)
    unfold soberK at this
    rw [List.getD_eq_getElem?_getD, List.getElem?_eq_getElem hk] at this
    simp at this
    omega
  · intro h k hk
    have hk' := List.mem_range.mp hk
    have := h k hk'
    unfold soberK
    rw [List.getD_eq_getElem?_getD, List.getElem?_eq_getElem hk']
    simp
    omega
def Offs (n : Int) (ps : List (Int × Int)) : Prop := ∀ p ∈ ps, 0 ≤ p.2 ∧ vac ps p ≤ n
theorem grow_vac {ps : List (Int × Int)} (h : Posi ps) {p : Int} (hv : ∀ z ∈ ps, vac ps z ≤ p - 1) : ∀ z ∈ grow ps p, vac (grow ps p) z ≤ p := by
  have n0 := longest_nonneg h (p - 1)
  have big : ∀ z ∈ ps, vac ps z = p - 1 → z.1 ≤ longest ps (p - 1) := fun z hz e => by
    have m : z.1 ∈ ripes ps (p - 1) := List.mem_map.mpr ⟨z, List.mem_filter.mpr ⟨hz, by simpa using e⟩, rfl⟩
    have n : ripes ps (p - 1) ≠ [] := fun w => by rw [w] at m; cases m
    unfold longest
    rw [if_neg n]
    exact lmax_le m
  unfold grow
  by_cases c : 0 < longest ps (p - 1)
  · rw [if_pos c]
    have mm := longest_mem c
    have pc := List.perm_cons_erase mm
    generalize longest ps (p - 1) = s at *
    generalize hfr : ps.erase (s, p - 1 - 2 * share ps s) = fr at *
    have sh : ∀ t, share ps t = lsr s t + share fr t := fun t => by rw [share_perm pc, share_cons]
    intro z hz
    unfold vac
    have e : share (fr ++ [(s + 1, p - 2 * (share fr (s + 1) + s + 1))]) z.1 = share fr z.1 + lsr (s + 1) z.1 := by
      rw [share_app, share_cons]
      simp [share]
    rw [e]
    rcases List.mem_append.mp hz with m | m
    · have hz' : z ∈ ps := pc.mem_iff.mpr (List.mem_cons_of_mem _ m)
      have v := hv z hz'
      have b := big z hz'
      have s1 := sh z.1
      unfold vac at v b
      have a1 : lsr s z.1 = if s < z.1 then s else z.1 := rfl
      have a2 : lsr (s + 1) z.1 = if s + 1 < z.1 then s + 1 else z.1 := rfl
      by_cases g : s + 1 ≤ z.1
      · have a1' : lsr s z.1 = s := by rw [a1]; split <;> omega
        have a2' : lsr (s + 1) z.1 = s + 1 := by rw [a2]; split <;> omega
        by_cases w : z.2 + 2 * share ps z.1 = p - 1
        · have := b w
          omega
        · omega
      · have a1' : lsr s z.1 = z.1 := by rw [a1]; split <;> omega
        have a2' : lsr (s + 1) z.1 = z.1 := by rw [a2]; split <;> omega
        omega
    · have : z = _ := List.mem_singleton.mp m
      rw [this]
      have a2 : lsr (s + 1) (s + 1) = s + 1 := by unfold lsr; split <;> omega
      show p - 2 * (share fr (s + 1) + s + 1) + 2 * (share fr (s + 1) + lsr (s + 1) (s + 1)) ≤ p
      rw [a2]
      omega
  · rw [if_neg c]
    have z0 : longest ps (p - 1) = 0 := by omega
    rw [z0] at big ⊢
    intro z hz
    unfold vac
    have e : share (ps ++ [((0 : Int) + 1, p - 2 * (share ps (0 + 1) + 0 + 1))]) z.1 = share ps z.1 + lsr (0 + 1) z.1 := by
      rw [share_app, share_cons]
      simp [share]
    rw [e]
    rcases List.mem_append.mp hz with m | m
    · have v := hv z m
      have b := big z m
      have h1 := h z m
      unfold vac at v b
      have a2 : lsr (0 + 1) z.1 = 1 := by unfold lsr; split <;> omega
      rw [a2]
      by_cases w : z.2 + 2 * share ps z.1 = p - 1
      · have := b w
        omega
      · omega
    · have : z = _ := List.mem_singleton.mp m
      rw [this]
      have a2 : lsr ((0 : Int) + 1) (0 + 1) = 1 := by unfold lsr; split <;> omega
      show p - 2 * (share ps (0 + 1) + 0 + 1) + 2 * (share ps (0 + 1) + lsr (0 + 1) (0 + 1)) ≤ p
      rw [a2]
      omega
theorem shrink_grow {M : List (Int × Int)} {q : Int} (h : Posi M) (hv : ∀ p ∈ M, vac M p ≤ q - 1) : topP (grow M q) = q ∧ (shrink (grow M q) q).Perm M := by
  obtain ⟨R, g⟩ := gro_grow h q
  have s0 := g.s0
  have gv := grow_vac h hv
  generalize longest M (q - 1) = s at *
  have hp := grow_posi h q
  generalize grow M q = M' at *
  obtain ⟨n1, n2⟩ := g.new
  have sn : share M' (s + 1) = share M (s + 1) + 1 := by rw [g.share (by omega), if_pos (by omega)]
  have en : (s + 1, q + (0 : Int) - 2 - 2 * share M (s + 1)) = (s + 1, q - 2 * share M' (s + 1)) := by
    rw [sn]
    refine Prod.ext rfl ?_
    dsimp only
    omega
  have tp : topP M' = q := by
    refine Int.le_antisymm ?_ ?_
    · have ne : M'.map (vac M') ≠ [] := fun z => by
        have : M' = [] := by simpa using z
        rw [this] at n1
        cases n1
      obtain ⟨p, hp, e⟩ := List.mem_map.mp (lmax_mem ne)
      show lmax _ ≤ _
      rw [← e]
      exact gv p hp
    · have := vac_le n1
      rw [n2] at this
      omega
  have sh : shortest M' q = s + 1 := by
    refine (lmin_of (m := s + 1) ?_ fun y hy => ?_).symm
    · rw [en] at n1
      exact mem_ripes.mpr n1
    · have m := mem_ripes.mp hy
      have p1 := hp _ m
      have v : vac M' (y, q - 2 * share M' y) = q := by
        unfold vac
        show q - 2 * share M' y + 2 * share M' y = q
        omega
      rcases g.old m (by omega) with e | ⟨_, hm, e⟩
      · have : y = s + 1 := congrArg Prod.fst e
        omega
      · rw [v] at e
        have a := hv _ hm
        dsimp only at e
        split at e
        · omega
        · omega
  refine ⟨tp, ?_⟩
  have rs : (rest M' q).Perm R := by
    unfold rest
    rw [sh, ← en]
    have w := g.m'.erase (s + 1, q + (0 : Int) - 2 - 2 * share M (s + 1))
    rwa [List.erase_cons_head] at w
  unfold shrink
  rw [sh]
  by_cases c : 1 < s + 1
  · rw [if_pos c]
    have e1 : share M s = s + share R s := by
      have b := share_perm g.m s
      rw [share_app, share_z s0 s0] at b
      have : lsr s s = s := by unfold lsr; split <;> omega
      omega
    have e2 : s + 1 - 1 = s := by omega
    have e3 := share_perm rs s
    have w := g.m
    unfold zst at w
    rw [if_pos (by omega)] at w
    have e4 : q - 1 - 2 * (share (rest M' q) (s + 1 - 1) + (s + 1) - 1) = q - 1 + 0 - 2 * share M s := by rw [e2]; omega
    rw [e4, e2]
    exact ((List.Perm.append_right _ rs).trans List.perm_append_comm).trans w.symm
  · rw [if_neg c]
    have w := g.m
    unfold zst at w
    rw [if_neg (by omega)] at w
    exact rs.trans w.symm
theorem heap_weight (r : List Int) : weight (heap r) = r.length := by
  have := weight_grows r (ps := []) (fun p hp => (nomatch hp))
  unfold heap
  rw [this]
  simp [weight]
theorem share_mono {ps : List (Int × Int)} {s t : Int} (h : s ≤ t) : share ps s ≤ share ps t := by
  induction ps with
  | nil => simp [share]
  | cons p r ih =>
    rw [share_cons, share_cons]
    unfold lsr
    split <;> split <;> omega
theorem grow_nn {M : List (Int × Int)} {q : Int} (h : Posi M) : (∀ z ∈ grow M q, 0 ≤ z.2) → ∀ z ∈ M, 0 ≤ z.2 := by
  intro hg z hz
  obtain ⟨R, g⟩ := gro_grow h q
  rcases List.mem_append.mp (g.m.mem_iff.mp hz) with w | w
  · unfold zst at w
    split at w
    · have e := List.mem_singleton.mp w
      have n1 := hg _ g.new.1
      have sm := share_mono (ps := M) (s := longest M (q - 1)) (t := longest M (q - 1) + 1) (by omega)
      rw [e]
      dsimp only at n1 ⊢
      omega
    · cases w
  · exact hg z (g.m'.mem_iff.mpr (List.mem_cons_of_mem _ w))
theorem lsr_le {a s : Int} : lsr a s ≤ a := by unfold lsr; split <;> omega
theorem share_le {ps : List (Int × Int)} (h : Posi ps) (s : Int) : share ps s ≤ (weight ps : Int) := by
  induction ps with
  | nil => simp [share, weight]
  | cons p r ih =>
    have a := ih fun q hq => h q (List.mem_cons_of_mem _ hq)
    have b := h p List.mem_cons_self
    have c := lsr_le (a := p.1) (s := s)
    rw [share_cons]
    simp [weight] at *
    omega
theorem nn_grow {M : List (Int × Int)} {q : Int} (h : Posi M) (hz : ∀ z ∈ M, 0 ≤ z.2) (hq : 2 * ((weight M : Int) + 1) ≤ q) : ∀ z ∈ grow M q, 0 ≤ z.2 := by
  intro z hm
  obtain ⟨R, g⟩ := gro_grow h q
  rcases List.mem_cons.mp (g.m'.mem_iff.mp hm) with w | w
  · have sl := share_le h (longest M (q - 1) + 1)
    rw [w]
    dsimp only
    omega
  · exact hz z (g.m.mem_iff.mpr (List.mem_append_right _ w))
/-- the greatest train lies whole ahead of the last stone -/
theorem top_weight {M : List (Int × Int)} (h : Posi M) (n : M ≠ []) (hz : ∀ z ∈ M, 0 ≤ z.2) : 2 * (weight M : Int) ≤ topP M := by
  have ne : M.map (·.1) ≠ [] := by simpa using n
  obtain ⟨p, hp, e⟩ := List.mem_map.mp (lmax_mem ne)
  have sw : share M p.1 = (weight M : Int) := by
    have key : ∀ (L : List (Int × Int)), Posi L → (∀ z ∈ L, z.1 ≤ p.1) → share L p.1 = (weight L : Int) := by
      intro L
      induction L with
      | nil => intro _ _; simp [share, weight]
      | cons a r ih =>
        intro hL hle
        have i := ih (fun q hq => hL q (List.mem_cons_of_mem _ hq)) fun z hz => hle z (List.mem_cons_of_mem _ hz)
        have a1 := hL a List.mem_cons_self
        have a2 := hle a List.mem_cons_self
        rw [share_cons, i]
        have : lsr a.1 p.1 = a.1 := by unfold lsr; split <;> omega
        rw [this]
        simp [weight]
        omega
    refine key M h fun z hz => ?_
    rw [e]
    exact lmax_le (List.mem_map.mpr ⟨z, hz, rfl⟩)
  have v := vac_le hp
  have o := hz p hp
  unfold vac at v
  omega
theorem heap_app (y l : List Int) : heap (y ++ l) = l.foldl grow (heap y) := by unfold heap; rw [List.foldl_append]
theorem heap_snoc (r : List Int) (p : Int) : heap (r ++ [p]) = grow (heap r) p := by rw [heap_app]; rfl
theorem heap_vac : ∀ (r : List Int) {ps : List (Int × Int)} {q : Int}, Posi ps → (∀ z ∈ ps, vac ps z ≤ q) → (∀ x ∈ r, q < x) → Rising r → ∀ z ∈ r.foldl grow ps, vac (r.foldl grow ps) z ≤ r.getLastD q
  | [], ps, q, _, hv, _, _ => hv
  | p :: r, ps, q, hp, hv, hq, hr => by
    have h1 := grow_vac hp (p := p) (fun z hz => by have := hv z hz; have := hq p List.mem_cons_self; omega)
    obtain ⟨a, b⟩ := List.pairwise_cons.mp hr
    have := heap_vac r (grow_posi hp p) h1 (fun x hx => a x hx) b
    rw [List.foldl_cons]
    have e : (p :: r).getLastD q = r.getLastD p := by cases r <;> rfl
    rw [e]
    exact this

theorem heap_legit {y : List Int} {q : Int} (hy : Rising y) (hq : ∀ x ∈ y, x < q) : ∀ z ∈ heap y, vac (heap y) z ≤ q - 1 := by
  cases y with
  | nil => intro z hz; cases hz
  | cons a y =>
    intro z hz
    have h := heap_vac (a :: y) (ps := []) (q := a - 1) (fun p hp => (nomatch hp)) (fun p hp => (nomatch hp)) (fun x hx => by
      rcases List.mem_cons.mp hx with e | m
      · omega
      · have := (List.pairwise_cons.mp hy).1 x m
        omega) hy z hz
    have lm : (a :: y).getLastD (a - 1) ∈ a :: y := by
      rw [List.getLastD_eq_getLast?]
      have : (a :: y).getLast? = some ((a :: y).getLast (by simp)) := List.getLast?_eq_some_getLast (by simp)
      rw [this]
      exact List.getLast_mem _
    have := hq _ lm
    exact Int.le_trans h (by omega)
theorem heap_posi (r : List Int) : Posi (heap r) := grows_posi r (ps := []) (fun p hp => (nomatch hp))
def tw (C : Str) (i : Int) : D := .tup [.str C, .int i]
/-- from niche 1 on never more stones than empty niches -/
theorem low_iff : ∀ (n : Nat) (r : List Int), r.length = n → Rising r → ((∀ z ∈ heap r, 0 ≤ z.2) ↔ ∀ k (h : k < r.length), 2 * (k : Int) + 2 ≤ r[k])
  | 0, r, hn, _ => by
    have : r = [] := List.eq_nil_of_length_eq_zero hn
    subst this
    exact ⟨fun _ k h => absurd h (by simp), fun _ z hz => nomatch (show z ∈ ([] : List (Int × Int)) from hz)⟩
  | n + 1, r, hn, hr => by
    have ne : r ≠ [] := fun z => by subst z; cases hn
    obtain ⟨y, p, rfl⟩ : ∃ y p, r = y ++ [p] := ⟨r.dropLast, r.getLast ne, (List.dropLast_concat_getLast ne).symm⟩
    have hy : y.length = n := by simpa using hn
    have pw := List.pairwise_append.mp hr
    have ry : Rising y := pw.1
    have lt : ∀ x ∈ y, x < p := fun x hx => pw.2.2 x hx p (by simp)
    have ih := low_iff n y hy ry
    have lg := heap_legit ry lt
    have hp := heap_posi y
    have tp := (shrink_grow hp lg).1
    have hw := heap_weight y
    rw [heap_snoc]
    constructor
    · intro hz k hk
      have hz0 := grow_nn hp hz
      by_cases c : k < y.length
      · rw [List.getElem_append_left c]
        exact ih.mp hz0 k c
      · have hk' : k = y.length := by simp at hk; omega
        subst hk'
        have gp := grow_posi hp p
        have gn : grow (heap y) p ≠ [] := by
          obtain ⟨R, g⟩ := gro_grow hp p
          intro w
          have := g.new.1
          rw [w] at this
          cases this
        have tw := top_weight gp gn hz
        rw [tp, weight_grow hp, hw] at tw
        rw [List.getElem_append_right (by omega)]
        simp
        omega
    · intro hk
      refine nn_grow hp (ih.mpr fun k hk' => ?_) ?_
      · have := hk k (by simp; omega)
        rw [List.getElem_append_left hk'] at this
        exact this
      · have := hk y.length (by simp)
        rw [List.getElem_append_right (by omega)] at this
        simp at this
        rw [hw]
        omega
theorem heap_top {y : List Int} {p : Int} (hr : Rising (y ++ [p])) : topP (heap (y ++ [p])) = p := by
  have pw := List.pairwise_append.mp hr
  rw [heap_snoc]
  exact (shrink_grow (heap_posi y) (heap_legit pw.1 fun x hx => pw.2.2 x hx p (by simp))).1
theorem high_iff {r : List Int} {n : Int} (hr : Rising r) : (∀ z ∈ heap r, vac (heap r) z ≤ n) ↔ ∀ x ∈ r, x ≤ n := by
  by_cases ne : r = []
  · subst ne
    exact ⟨fun _ x hx => (nomatch hx), fun _ z hz => nomatch (show z ∈ ([] : List (Int × Int)) from hz)⟩
  · obtain ⟨y, p, rfl⟩ : ∃ y p, r = y ++ [p] := ⟨r.dropLast, r.getLast ne, (List.dropLast_concat_getLast ne).symm⟩
    have tp := heap_top hr
    have pw := List.pairwise_append.mp hr
    constructor
    · intro hz x hx
      have hn : heap (y ++ [p]) ≠ [] := fun w => by
        have := heap_weight (y ++ [p])
        rw [w] at this
        simp [weight] at this
      have m := short_mem hn
      have v := hz _ m
      have e : p ≤ n := by
        unfold vac at v
        dsimp only at v
        rw [tp] at v
        omega
      rcases List.mem_append.mp hx with w | w
      · have := pw.2.2 x w p (by simp)
        omega
      · rw [List.mem_singleton.mp w]; exact e
    · intro hx z hz
      have := vac_le hz
      rw [tp] at this
      have := hx p (by simp)
      omega
/-- a row is sober just where each offset is from 0 to its room -/
theorem sober_offs {r : List Int} (hr : Rising r) (n : Int) : soberB n r = true ↔ Offs n (lists r) := by
  have pm : (lists r).Perm (heap r) := sortBy_perm _
  have e : Offs n (lists r) ↔ (∀ z ∈ heap r, 0 ≤ z.2) ∧ ∀ z ∈ heap r, vac (heap r) z ≤ n := by
    unfold Offs
    constructor
    · intro h
      exact ⟨fun z hz => (h z (pm.mem_iff.mpr hz)).1, fun z hz => by rw [← vac_perm pm]; exact (h z (pm.mem_iff.mpr hz)).2⟩
    · intro h z hz
      exact ⟨h.1 z (pm.mem_iff.mp hz), by rw [vac_perm pm]; exact h.2 z (pm.mem_iff.mp hz)⟩
  rw [e, soberB_iff, low_iff r.length r rfl hr, high_iff hr]
  constructor
  · intro h
    refine ⟨fun k hk => (h k hk).1, fun x hx => ?_⟩
    obtain ⟨k, hk, rfl⟩ := List.getElem_of_mem hx
    exact (h k hk).2
  · intro h k hk
    exact ⟨h.1 k hk, h.2 _ (List.getElem_mem hk)⟩

theorem fold_longest (ps : List (Int × Int)) (q : Int) : ∀ (l : List (Int × Int)) (b : Int), let m := l.foldl (fun (b : Int) (p : Int × Int) => if b < p.1 ∧ vac ps p = q then p.1 else b) b
    (m = b ∨ ∃ p ∈ l, vac ps p = q ∧ p.1 = m) ∧ b ≤ m ∧ ∀ p ∈ l, vac ps p = q → p.1 ≤ m
  | [], b => ⟨.inl rfl, Int.le_refl _, fun p hp => nomatch hp⟩
  | x :: l, b => by
    obtain ⟨h1, h2, h3⟩ := fold_longest ps q l (if b < x.1 ∧ vac ps x = q then x.1 else b)
    rw [List.foldl_cons]
    generalize l.foldl (fun (b : Int) (p : Int × Int) => if b < p.1 ∧ vac ps p = q then p.1 else b) (if b < x.1 ∧ vac ps x = q then x.1 else b) = m at *
    by_cases c : b < x.1 ∧ vac ps x = q
    · rw [if_pos c] at h1 h2
      refine ⟨?_, by omega, fun p hp v => ?_⟩
      · rcases h1 with z | ⟨p, hp, z⟩
        · exact .inr ⟨x, List.mem_cons_self, c.2, z.symm⟩
        · exact .inr ⟨p, List.mem_cons_of_mem _ hp, z⟩
      · rcases List.mem_cons.mp hp with z | z
        · rw [z]; exact h2
        · exact h3 p z v
    · rw [if_neg c] at h1 h2
      refine ⟨?_, h2, fun p hp v => ?_⟩
      · rcases h1 with z | ⟨p, hp, z⟩
        · exact .inl z
        · exact .inr ⟨p, List.mem_cons_of_mem _ hp, z⟩
      · rcases List.mem_cons.mp hp with z | z
        · subst z
          have : ¬ b < p.1 := fun w => c ⟨w, v⟩
          omega
        · exact h3 p z v
theorem fold_is_longest {ps : List (Int × Int)} (h : Posi ps) (q : Int) : ps.foldl (fun (b : Int) (p : Int × Int) => if b < p.1 ∧ vac ps p = q then p.1 else b) 0 = longest ps q := by
  obtain ⟨h1, h2, h3⟩ := fold_longest ps q ps 0
  generalize ps.foldl (fun (b : Int) (p : Int × Int) => if b < p.1 ∧ vac ps p = q then p.1 else b) 0 = m at *
  have k : ∀ t ∈ ripes ps q, t ≤ m := fun t ht => by
    have := h3 _ (mem_ripes.mp ht) (by unfold vac; show q - 2 * share ps t + 2 * share ps t = q; omega)
    exact this
  rcases h1 with z | ⟨p, hp, v, e⟩
  · refine (longest_none fun t ht => ?_).symm ▸ z
    have a := k t ht
    have b := h _ (mem_ripes.mp ht)
    have b' : 1 ≤ t := b
    omega
  · exact (longest_of (List.mem_map.mpr ⟨p, List.mem_filter.mpr ⟨hp, by simpa using v⟩, e⟩) k).symm
theorem longest_ripe_ok (ps : List (Int × Int)) (q : Int) (h : Posi ps) : f_longest_ripe [.lst (ps.map twoD), .int q] = .ok (.int (longest ps q)) := by
  obtain ⟨r', e, a, b, hr⟩ := forL_fold twoD (fun (b : Int) (p : Int × Int) => if b < p.1 ∧ vac ps p = q then p.1 else b) (fun b r => ∃ x y, r = [some (.lst (ps.map twoD)), some (.int q), some (.int b), x, y]) (.tup [3, 4]) b_longest_ripe_1 ps 0 [some (.lst (ps.map twoD)), some (.int q), some (.int 0), none, none] ⟨none, none, rfl⟩ (fun p _ b r ⟨x, y, e⟩ => by
    subst e
    refine ⟨[.int p.1, .int p.2], _, rfl, ?_, ⟨some (.int p.1), some (.int p.2), rfl⟩⟩
    have v := vac_iff ps p q
    by_cases c1 : b < p.1 <;> by_cases c2 : p.2 = q - 2 * share ps p.1
    · simp [b_longest_ripe_1, mark_ok, c1, c2, v.mp c2]
    · have c3 : ¬ vac ps p = q := fun z => c2 (v.mpr z)
      simp [b_longest_ripe_1, mark_ok, c1, c2, c3]
    · simp [b_longest_ripe_1, mark_ok, c1]
    · simp [b_longest_ripe_1, mark_ok, c1])
  subst hr
  rw [fold_is_longest h] at e
  simp [f_longest_ripe, m_longest_ripe, e]
theorem grown_ok (ps : List (Int × Int)) (p : Int) (h : Posi ps) (hz : ps.length < 1000) : f_grown [.lst (ps.map twoD), .int p] = .ok (.lst ((grow ps p).map twoD)) := by
  have e1 := longest_ripe_ok ps (p - 1) h
  have m2 : ∀ x : Int, mulOk 2 x = true := fun x => mulOk_left (by decide) (by decide)
  by_cases c : 0 < longest ps (p - 1)
  · have rm := remL_ok (x := (longest ps (p - 1), p - 1 - 2 * share ps (longest ps (p - 1)))) (longest_mem c) (le_szL (by omega))
    have l1 : (ps.erase (longest ps (p - 1), p - 1 - 2 * share ps (longest ps (p - 1)))).length < szL := lt_szL (Nat.lt_of_le_of_lt List.length_erase_le (by omega))
    unfold grow
    rw [if_pos c]
    generalize longest ps (p - 1) = s at *
    generalize ps.erase (s, p - 1 - 2 * share ps s) = fr at *
    rw [← app_pair]
    simp [f_grown, m_grown, e1, c, mark_ok, rm, share_ok, m2, l1]
  · have l1 : ps.length < szL := lt_szL (by omega)
    unfold grow
    rw [if_neg c]
    generalize longest ps (p - 1) = s at *
    rw [← app_pair]
    simp [f_grown, m_grown, e1, c, mark_ok, share_ok, m2, l1]
theorem grow_len (ps : List (Int × Int)) (p : Int) : (grow ps p).length ≤ ps.length + 1 := by
  unfold grow
  rw [List.length_append]
  have : (if 0 < longest ps (p - 1) then ps.erase (longest ps (p - 1), p - 1 - 2 * share ps (longest ps (p - 1))) else ps).length ≤ ps.length := by
    split
    · exact List.length_erase_le
    · exact Nat.le_refl _
  simp
  omega
theorem heap_sorted (r : List Int) : fSorted [.lst ((heap r).map twoD)] = .ok (.lst ((lists r).map twoD)) := fSorted_two _

theorem list_of_ok (r : List Int) (hl : r.length ≤ 500) : f_list_of [.lst (r.map D.int)] = .ok (.lst ((lists r).map twoD)) := by
  obtain ⟨r', e, _, _, a, hr⟩ := forL_foldI D.int grow (fun n s t => Posi s ∧ s.length ≤ n ∧ ∃ x, t = [some (.lst (r.map D.int)), some (.lst (s.map twoD)), x]) (.one 2) b_list_of_1 r 0 [] [some (.lst (r.map D.int)), some (.lst []), none] ⟨fun p hp => (nomatch hp), by simp, none, rfl⟩ (fun i p hi hp s t ⟨h1, h2, x, e⟩ => by
    subst e
    refine ⟨[.int p], _, rfl, ?_, ⟨grow_posi h1 p, by have := grow_len s p; omega, some (.int p), rfl⟩⟩
    simp [b_list_of_1, grown_ok s p h1 (by omega)])
  subst hr
  have hs : fSorted [.lst ((r.foldl grow []).map twoD)] = _ := heap_sorted r
  simp [f_list_of, m_list_of, e, hs]

theorem grows_len : ∀ (r : List Int) (ps : List (Int × Int)), (r.foldl grow ps).length ≤ ps.length + r.length
  | [], _ => Nat.le_refl _
  | p :: r, ps => by
    have a := grows_len r (grow ps p)
    have b := grow_len ps p
    simp
    omega
theorem lists_len (r : List Int) : (lists r).length ≤ r.length := by
  have a := grows_len r []
  have b := (sortBy_perm (lt := ltII) (heap r)).length_eq
  unfold lists
  rw [b]
  exact Nat.le_trans a (by simp)
theorem nof_ok (n : Int) (r : List Int) (hr : Rising r) (hl : r.length ≤ 60) (h0 : 0 ≤ n) (h1 : n ≤ 200) (hsb : soberB n r = true) : f_number_of [.int n, .lst (r.map D.int)] = .ok (.int (numZ (lists r) (groupsZ n ((lists r).map (·.1))) : Nat)) := by
  have a := look_row_ok r hr (by omega)
  have b := look_niches_ok n h0 h1
  have s := is_sober_ok n r (by omega)
  rw [hsb] at s
  have so := (soberB_iff n r).mp hsb
  have lo := list_of_ok r (by omega)
  have hS := ss_of r hl
  have sl := hS.len
  have gr := groups_ok n ((lists r).map (·.1)) (by omega)
  have tg := tot_groups n ((lists r).map (·.1))
  have gl : (groupsZ n ((lists r).map (·.1))).length ≤ 60 := by
    unfold groupsZ
    rw [List.length_map]
    have := sortSet_len ((lists r).map (·.1))
    omega
  have ll := lists_len r
  have of := (sober_offs hr n).mp hsb
  obtain ⟨y4, y5, y6, y7, y8, y9, e⟩ := nof_loopX (some (.int n)) (some (.lst (r.map D.int))) (lists r) (by omega) (fun z hz => ⟨(of z hz).1, lists_off r 200 (fun p hp => by
    obtain ⟨k, hk, rfl⟩ := List.mem_iff_getElem.mp hp
    have := so k hk
    omega) z hz⟩) (sorted_pw (heap r)) (groupsZ n ((lists r).map (·.1))) 0 0 none none none none none none (by decide) (Int.le_of_lt (Int.pow_pos (by decide))) (by omega) fun g hg => ⟨by
      obtain ⟨s0, _, rfl⟩ := List.mem_map.mp hg
      show ((lists r).map (·.1)).count s0 ≤ 60
      exact Nat.le_trans List.count_le_length sl, groups_room n _ hS (by omega) g hg⟩
  have cp : gComp (gIter (gVar 2)) (.tup [4, 7]) [4, 7] gYes (gVar 4) [some (.int n), some (.lst (r.map D.int)), some (.lst ((lists r).map twoD)), some (.int 0), none, none, none, none, none, none] = .ok (.lst (((lists r).map (·.1)).map D.int)) := by
    rw [List.map_map]
    exact gComp_map (l := lists r) (F := twoD) (G := D.int ∘ fun p => p.1) rfl fun p _ => by simp [gTurn, twoD]
  rw [Int.zero_mul, Int.zero_add] at e
  generalize numZ (lists r) (groupsZ n ((lists r).map (·.1))) = nn at *
  generalize (groupsZ n ((lists r).map (·.1))).map threeD = gg at *
  generalize ((lists r).map (·.1)).map D.int = sm at *
  generalize (lists r).map twoD = lr at *
  generalize r.map D.int = rr at *
  simp [f_number_of, m_number_of, a, b, s, lo, cp, gr, e]
theorem groups_lt (n : Int) (ss : List Int) : (groupsZ n ss).Pairwise fun a b => a.1 < b.1 := by
  unfold groupsZ
  exact List.pairwise_map.mpr (sortSet_lt ss)
theorem rnum_posi (n : Int) (ss : List Int) (hS : Siz ss) {m : Nat} (h : m < prodN (groupsZ n ss)) : Posi (rnum (groupsZ n ss) m) := fun p hp => by
  obtain ⟨g, hg, e, -⟩ := rnum_mem _ _ h p hp
  obtain ⟨s, hs, rfl⟩ := List.mem_map.mp hg
  rw [e]
  exact hS.1 s ((sortSet_mem ss s).mp hs)
theorem groups_perm (n : Int) {ss tt : List Int} (h : ss.Perm tt) : groupsZ n ss = groupsZ n tt := by
  unfold groupsZ
  have e : sortSet ss = sortSet tt := lt_unique (sortSet_lt _) (sortSet_lt _) fun k => by rw [sortSet_mem, sortSet_mem, h.mem_iff]
  rw [e]
  refine List.map_congr_left fun s _ => ?_
  have r : roomZ n ss s = roomZ n tt s := by
    unfold roomZ
    rw [sum_perm (h.map _)]
  rw [r, h.count_eq]
theorem room_share (n : Int) (ps : List (Int × Int)) (s : Int) : roomZ n (ps.map (·.1)) s = n - 2 * share ps s := by
  unfold roomZ
  rw [List.map_map]
  have : (ps.map ((fun o => if o < s then o else s) ∘ (·.1))).sum = share ps s := by
    induction ps with
    | nil => simp [share]
    | cons p ps ih =>
      rw [List.map_cons, List.sum_cons, ih, share_cons]
      rfl
  rw [this]
structure NRow (n : Int) (ss : List Int) (m : Nat) : Prop where
  ri : Rising (stones (rnum (groupsZ n ss) m))
  ln : (stones (rnum (groupsZ n ss) m)).length ≤ 60
  li : lists (stones (rnum (groupsZ n ss) m)) = rnum (groupsZ n ss) m
  sz : (rnum (groupsZ n ss) m).map (·.1) = sortBy ltI ss
  sb : soberB n (stones (rnum (groupsZ n ss) m)) = true
  nm : numZ (rnum (groupsZ n ss) m) (groupsZ n ((rnum (groupsZ n ss) m).map (·.1))) = m
theorem stones_length (ps : List (Int × Int)) (h : Posi ps) : (stones ps).length = weight ps := by
  unfold stones
  rw [List.length_reverse]
  exact stones_len (weight ps) h (Nat.le_refl _)
theorem sort_perm {ps qs : List (Int × Int)} (h : ps.Perm qs) : sortBy ltII ps = sortBy ltII qs :=
  srt_uniq sto_II ((sortBy_perm ps).trans (h.trans (sortBy_perm qs).symm)) (sortBy_srt sto_II ps) (sortBy_srt sto_II qs)
/-- the list of a list's row is the list -/
theorem lists_stones (ps : List (Int × Int)) (h : Posi ps) : lists (stones ps) = sortBy ltII ps := sort_perm (stones_grow (weight ps) h (Nat.le_refl _))

theorem stones_rising (ps : List (Int × Int)) (h : Posi ps) : Rising (stones ps) := by
  unfold stones Rising
  rw [List.pairwise_reverse]
  exact (stones_lt (weight ps) h).1

theorem nrow (n : Int) (ss : List Int) (hS : Siz ss) {m : Nat} (h : m < prodN (groupsZ n ss)) : NRow n ss m := by
  have po := rnum_posi n ss hS h
  have sz := rnum_szs n ss h
  have ri := stones_rising _ po
  have srt := rnum_sorted _ _ h (groups_lt n ss)
  have li : lists (stones (rnum (groupsZ n ss) m)) = rnum (groupsZ n ss) m := by
    rw [lists_stones _ po]
    refine (sortBy_of sto_II (List.Perm.refl _) (srt.imp ?_)).symm
    intro a b q
    unfold ltII
    rcases q with q | ⟨q1, q2⟩
    · simp; omega
    · simp; omega
  have pm : ((rnum (groupsZ n ss) m).map (·.1)).Perm ss := by rw [sz]; exact sortBy_perm ss
  refine ⟨ri, ?_, li, sz, (sober_offs ri n).mpr ?_, ?_⟩
  · rw [stones_length _ po]
    have ws := sum_sizes po
    have e : ((rnum (groupsZ n ss) m).map fun p => p.1).sum = ss.sum := sum_perm pm
    have := hS.2
    omega
  · rw [li]
    intro p hp
    obtain ⟨g, hg, e1, e2, e3⟩ := rnum_mem _ _ h p hp
    obtain ⟨s, hs, rfl⟩ := List.mem_map.mp hg
    refine ⟨e2, ?_⟩
    have rs : roomZ n ss s = n - 2 * share (rnum (groupsZ n ss) m) s := by
      rw [← room_share]
      unfold roomZ
      rw [sum_perm (pm.symm.map _)]
    unfold vac
    dsimp only at e1 e3
    rw [rs] at e3
    rw [e1]
    omega
  · rw [groups_perm n pm]
    have := numZ_rnum (groupsZ n ss) m [] h (groups_lt n ss) (fun p hp => nomatch hp)
    rwa [List.nil_append] at this

theorem pow_ok1 : dPow (.int 10) (.int 18) = .ok (.int 1000000000000000000) := dPow_ok (k := 18) (by decide) (by decide)
theorem range60 : dRange1 (.int 60) = .ok ((List.range 60).map fun (i : Nat) => D.int i) := dRange1_nat (n := 60) (by decide)
theorem len60 : ((List.range 60).map fun (i : Nat) => D.int i).length = 60 := by simp
theorem numbers_in (s m : D) (c : Option D) : ∀ (js : List D) (acc : List Int) (rest : Int) (seed : Option D) (k : Option D), acc.length + js.length ≤ 200000 → Drawn acc → ∃ acc' rest' k',
    forL (.one 6) b_numbers_L_1 js [some s, some m, some (.lst (acc.map D.int)), seed, c, some (.int rest), k] = .nx [some s, some m, some (.lst (acc'.map D.int)), seed, c, some (.int rest'), k'] ∧ acc'.length ≤ acc.length + js.length ∧ Drawn acc'
  | [], acc, rest, seed, k, h1, h2 => ⟨acc, rest, k, rfl, by simp, h2⟩
  | j :: js, acc, rest, seed, k, h1, h2 => by
    rw [List.length_cons] at h1
    by_cases hr : 0 < rest
    · have f := fmod_pos (a := rest) (b := 1013) (by decide)
      obtain ⟨acc', rest', k', e1, e2, e3⟩ := numbers_in s m c js (acc ++ [rest.fmod 1013]) (rest.fdiv 1013) seed (some j) (by simp; omega) (h2.snoc f.1 (by omega))
      refine ⟨acc', rest', k', ?_, by simp at e2; rw [List.length_cons]; omega, e3⟩
      have hz : acc.length < szL := by exact lt_szL (by omega)
      have b : b_numbers_L_1 [some s, some m, some (.lst (acc.map D.int)), seed, c, some (.int rest), some j] = .nx [some s, some m, some (.lst ((acc ++ [rest.fmod 1013]).map D.int)), seed, c, some (.int (rest.fdiv 1013)), some j] := by
        simp [b_numbers_L_1, hr, hz]
      rw [← e1]
      simp [forL, b]
    · obtain ⟨acc', rest', k', e1, e2, e3⟩ := numbers_in s m c js acc rest seed (some j) (by omega) h2
      refine ⟨acc', rest', k', ?_, by rw [List.length_cons]; omega, e3⟩
      have b : b_numbers_L_1 [some s, some m, some (.lst (acc.map D.int)), seed, c, some (.int rest), some j] = .nx [some s, some m, some (.lst (acc.map D.int)), seed, c, some (.int rest), some j] := by
        simp [b_numbers_L_1, hr]
      rw [← e1]
      simp [forL, b]
theorem numbers_s1 (seed d : Int) (s m a x k : Option D) (hmul : mulOk seed 40014 = true) : mSet 3 (gBin dMod (gBin dAdd (gBin dAdd (gBin dMul (gVar 3) (gC (.int 40014))) (gBin dMod (gVar 4) (gC (.int 999983)))) (gC (.int 29))) (gC (.int 2147483563))) [s, m, a, some (.int seed), some (.int d), x, k] =
    .nx [s, m, a, some (.int ((seed * 40014 + d.fmod 999983 + 29).fmod 2147483563)), some (.int d), x, k] := by
  simp [hmul]
theorem numbers_s2 (d C18 : Int) (s m a sd x k : Option D) (p18 : dPow (.int 10) (.int 18) = .ok (.int C18)) : mSet 5 (gBin dSub (gVar 4) (gBin dPow (gC (.int 10)) (gC (.int 18)))) [s, m, a, sd, some (.int d), x, k] = .nx [s, m, a, sd, some (.int d), some (.int (d - C18)), k] := by
  simp [p18]
theorem numbers_s3 (d x : Int) (s m sd k : Option D) (acc : List Int) (hz : acc.length < szL) : mIf (gTest (gBin dLt (gVar 5) (gC (.int 0)))) (mSeq (mApp 2 (gBin dMod (gVar 4) (gC (.int 9967)))) mNil) mNil [s, m, some (.lst (acc.map D.int)), sd, some (.int d), some (.int x), k] =
    .nx [s, m, some (.lst ((if x < 0 then acc ++ [d.fmod 9967] else acc).map D.int)), sd, some (.int d), some (.int x), k] := by
  by_cases h : x < 0 <;> simp [h, hz]
theorem numbers_step (s m : D) (acc : List Int) (seed d : Int) (x k : Option D) (hmul : mulOk seed 40014 = true) (hz : acc.length < szL) (h2 : Drawn acc) (fd : 0 ≤ d.fmod 9967 ∧ d.fmod 9967 < 9967) :
    ∃ acc1, acc1.length ≤ acc.length + 1 ∧ Drawn acc1 ∧ ∀ a1 r1 k1, forL (.one 6) b_numbers_L_1 (((List.range 60).map fun (i : Nat) => D.int i)) [some s, some m, some (.lst (acc1.map D.int)), some (.int ((seed * 40014 + d.fmod 999983 + 29).fmod 2147483563)), some (.int d), some (.int (d - 1000000000000000000)), k] = .nx [some s, some m, some (.lst (List.map D.int a1)), some (.int ((seed * 40014 + d.fmod 999983 + 29).fmod 2147483563)), some (.int d), some (.int r1), k1] →
        b_numbers_L_2 [some s, some m, some (.lst (acc.map D.int)), some (.int seed), some (.int d), x, k] = .nx [some s, some m, some (.lst (List.map D.int a1)), some (.int ((seed * 40014 + d.fmod 999983 + 29).fmod 2147483563)), some (.int d), some (.int r1), k1] := by
  refine ⟨if d - 1000000000000000000 < 0 then acc ++ [d.fmod 9967] else acc, ?_, ?_, fun a1 r1 k1 e1 => ?_⟩
  · split <;> simp
  · split
    · exact h2.snoc fd.1 fd.2
    · exact h2
  · unfold b_numbers_L_2
    rw [seq_nx (numbers_s1 _ _ _ _ _ _ _ hmul), seq_nx (numbers_s2 _ _ _ _ _ _ _ _ pow_ok1), seq_nx (numbers_s3 _ _ _ _ _ _ _ hz)]
    have e2 : mFor (gRange1 (gC (.int 60))) (.one 6) b_numbers_L_1 [some s, some m, some (.lst ((if d - 1000000000000000000 < 0 then acc ++ [d.fmod 9967] else acc).map D.int)), some (.int ((seed * 40014 + d.fmod 999983 + 29).fmod 2147483563)), some (.int d), some (.int (d - 1000000000000000000)), k] = .nx [some s, some m, some (.lst (List.map D.int a1)), some (.int ((seed * 40014 + d.fmod 999983 + 29).fmod 2147483563)), some (.int d), some (.int r1), k1] := by
      show onR (dRange1 (.int 60)) _ _ = _
      rw [range60]
      exact e1
    rw [seq_nx e2]
    rfl
theorem numbers_out (s m : D) : ∀ (ds : List Int) (acc : List Int) (seed : Int) (c x k : Option D), acc.length + 61 * ds.length ≤ 100000 → Drawn acc → 0 ≤ seed → seed < 2147483563 → ∃ acc' seed' c' x' k',
    forL (.one 4) b_numbers_L_2 (ds.map D.int) [some s, some m, some (.lst (acc.map D.int)), some (.int seed), c, x, k] =
      .nx [some s, some m, some (.lst (acc'.map D.int)), some (.int seed'), c', x', k'] ∧ acc'.length ≤ acc.length + 61 * ds.length ∧ Drawn acc' ∧ 0 ≤ seed' ∧ seed' < 2147483563
  | [], acc, seed, c, x, k, h1, h2, h3, h4 => ⟨acc, seed, c, x, k, rfl, by simp, h2, h3, h4⟩
  | d :: ds, acc, seed, c, x, k, h1, h2, h3, h4 => by
    rw [List.length_cons] at h1
    have fs := fmod_pos (a := seed * 40014 + d.fmod 999983 + 29) (b := 2147483563) (by decide)
    have fd := fmod_pos (a := d) (b := 9967) (by decide)
    have hmul : mulOk seed 40014 = true := mulOk_right (by decide) (by decide)
    have hz : acc.length < szL := by exact lt_szL (by omega)
    obtain ⟨acc1, l1, d1, kk⟩ := numbers_step s m acc seed d x k hmul hz h2 fd
    obtain ⟨a1, r1, k1, e1, e2, e3⟩ := numbers_in s m (some (.int d)) (((List.range 60).map fun (i : Nat) => D.int i)) acc1 (d - 1000000000000000000) (some (.int ((seed * 40014 + d.fmod 999983 + 29).fmod 2147483563))) k (by rw [len60]; omega) d1
    rw [len60] at e2
    obtain ⟨a2, s2, c2, x2, k2, f1, f2, f3, f4, f5⟩ := numbers_out s m ds a1 _ (some (.int d)) (some (.int r1)) k1 (by omega) e3 fs.1 fs.2
    refine ⟨a2, s2, c2, x2, k2, ?_, by rw [List.length_cons]; omega, f3, f4, f5⟩
    rw [← f1]
    have b := kk a1 r1 k1 e1
    show (match b_numbers_L_2 [some s, some m, some (.lst (acc.map D.int)), some (.int seed), some (.int d), x, k] with
      | .nx r' => forL (.one 4) b_numbers_L_2 (ds.map D.int) r'
      | o => o) = _
    rw [b]
theorem sIx_hi (n k : Nat) : HT.sIx n n (some (k : Int)) = min k n := HT.sIx_nat n n k
theorem numbers_ok (ns : List Int) (hn : ns.length ≤ 63) (many : Nat) (hm : many ≤ 2000) : ∃ l : List Int, f_numbers_L [.scr ns, .int many] = .ok (.lst (l.map D.int)) ∧ l.length = many ∧ Drawn l := by
  have hc : (cutL ns none (some 63)).length ≤ 63 := by
    unfold cutL
    rw [List.length_take, List.length_drop]
    omega
  obtain ⟨a1, s1, c1, x1, k1, e1, e2, e3, e4, e5⟩ := numbers_out (.scr ns) (.int many) (cutL ns none (some 63)) [] 59 none none none (by simp; omega) (fun d hd => nomatch hd) (by decide) (by decide)
  rw [List.length_nil] at e2
  -- the filling up
  obtain ⟨r', w1, ⟨acc, seed, rfl, w2, w3, w4, w5⟩, w6⟩ := whileL_inv (fun r => ∃ (acc : List Int) (seed : Int), r = [some (.scr ns), some (.int many), some (.lst (acc.map D.int)), some (.int seed), c1, x1, k1] ∧ acc.length ≤ 6000 ∧ Drawn acc ∧ 0 ≤ seed ∧ seed < 2147483629)
    (fun r => match r with
      | [_, _, some (.lst a), _, _, _, _] => many - a.length
      | _ => 0) (tc := gTest (gBin dLt (gCall fLen (gCons (gVar 2) gNil)) (gVar 1))) (mb := b_numbers_L_3) (fun r ⟨acc, seed, e, h1, h2, h3, h4⟩ => by
      subst e
      refine ⟨decide ((acc.length : Int) < many), by simp, fun hb => ?_⟩
      have hb' : acc.length < many := by
        have := of_decide_eq_true hb
        omega
      have m1 : mulOk seed seed = true := mulOk_left (by omega) (by omega)
      have m2 : mulOk 52774 seed = true := mulOk_left (by decide) (by decide)
      have m3 : mulOk 13 (acc.length : Int) = true := mulOk_left (by decide) (by decide)
      have hz : acc.length < szL := by exact lt_szL (by omega)
      have f1 := fmod_pos (a := seed * seed + 52774 * seed + 13 * acc.length + 7) (b := 2147483629) (by decide)
      have f2 := fmod_pos (a := ((seed * seed + 52774 * seed + 13 * acc.length + 7).fmod 2147483629).fdiv 1019) (b := 9967) (by decide)
      refine ⟨[some (.scr ns), some (.int many), some (.lst ((acc ++ [(((seed * seed + 52774 * seed + 13 * acc.length + 7).fmod 2147483629).fdiv 1019).fmod 9967]).map D.int)), some (.int ((seed * seed + 52774 * seed + 13 * acc.length + 7).fmod 2147483629)), c1, x1, k1], ?_, ⟨_, _, rfl, by simp; omega, h2.snoc f2.1 f2.2, f1.1, f1.2⟩, ?_⟩
      · simp [b_numbers_L_3, m1, m2, m3, hz]
      · simp
        omega) WB [some (.scr ns), some (.int many), some (.lst (a1.map D.int)), some (.int s1), c1, x1, k1] ⟨a1, s1, rfl, by omega, e3, e4, by omega⟩ (by
      rw [WB_eq]
      show many - _ < 100000
      omega)
  have w7 : ¬ acc.length < many := by
    simp at w6
    omega
  refine ⟨acc.take many, ?_, by rw [List.length_take]; omega, fun d hd => w3 d (List.mem_of_mem_take hd)⟩
  have hcut : cutL (acc.map D.int) none (some (many : Int)) = (acc.take many).map D.int := by
    unfold cutL
    rw [HT.sIx_none, sIx_hi, List.drop_zero, Nat.sub_zero, List.map_take, List.length_map, Nat.min_eq_left (by omega)]
  have e1' : forL (.one 4) b_numbers_L_2 ((cutL ns none (some 63)).map D.int) [some (.scr ns), some (.int (many : Int)), some (.lst []), some (.int 59), none, none, none] = _ := e1
  simp [f_numbers_L, m_numbers_L, e1', w1, hcut, le_szL (n := 0) (by decide)]

theorem all_true : ∀ (l : List Nat), blsOf (l.map fun _ => D.bl true) = some (l.map fun _ => true)
  | [] => rfl
  | _ :: l => by
    show (blsOf (l.map fun _ => D.bl true)).map _ = _
    rw [all_true l]
    rfl
theorem fAll_true (l : List Nat) : fAll [.lst (l.map fun _ => D.bl true)] = .ok (.bl true) := by
  dsimp only [fAll]
  rw [all_true]
  simp
theorem same_refl : ∀ (n : Nat) (d : D), n ≤ 64 → pl n d = true → f_same_L n [d, d] = .ok (.bl true)
  | 0, _, _, h => by cases h
  | n + 1, .non, _, _ => by simp [f_same_L, m_same_L]
  | n + 1, .bl b, hn, h => by simp [f_same_L, m_same_L]
  | n + 1, .int i, hn, h => by simp [f_same_L, m_same_L]
  | n + 1, .str x, hn, h => by simp [f_same_L, m_same_L, dEq_self hn h]
  | _ + 1, .dct _, _, h => by cases h
  | _ + 1, .obj _ _, _, h => by cases h
  | _ + 1, .scr _, _, h => by cases h
  | n + 1, .lst xs, hn, h => by
    have q : (xs.all (pl n) && decide (xs.length ≤ szL)) = true := h
    obtain ⟨q1, q2⟩ := Bool.and_eq_true_iff.mp q
    have hl : xs.length ≤ szL := of_decide_eq_true q2
    have c : gComp (gRange1 (gCall fLen (VL.gCons (gVar 1) VL.gNil))) (.one 2) [2] gYes (gCall (f_same_L n) (VL.gCons (gBin dIdx (gVar 0) (gVar 2)) (VL.gCons (gBin dIdx (gVar 1) (gVar 2)) VL.gNil))) [some (.lst xs), some (.lst xs), none] = .ok (.lst ((List.range xs.length).map fun _ => D.bl true)) := by
      refine gComp_map (F := fun (i : Nat) => D.int i) ?_ fun i hi => ?_
      · show dRange1 (.int (xs.length : Int)) = _
        exact dRange1_nat (by rw [szL_val] at hl; exact hl)
      · have hi' : i < xs.length := List.mem_range.mp hi
        have e : xs[i]? = some xs[i] := by simp [hi']
        have s := same_refl n xs[i] (by omega) (List.all_eq_true.mp q1 _ (List.getElem_mem hi'))
        simp [gTurn, dIdx_list e, s, -dIdx]
    simp [f_same_L, m_same_L, c, fAll_true]
  | n + 1, .tup xs, hn, h => by
    have q : (xs.all (pl n) && decide (xs.length ≤ szL)) = true := h
    obtain ⟨q1, q2⟩ := Bool.and_eq_true_iff.mp q
    have hl : xs.length ≤ szL := of_decide_eq_true q2
    have c : gComp (gRange1 (gCall fLen (VL.gCons (gVar 1) VL.gNil))) (.one 2) [2] gYes (gCall (f_same_L n) (VL.gCons (gBin dIdx (gVar 0) (gVar 2)) (VL.gCons (gBin dIdx (gVar 1) (gVar 2)) VL.gNil))) [some (.tup xs), some (.tup xs), none] = .ok (.lst ((List.range xs.length).map fun _ => D.bl true)) := by
      refine gComp_map (F := fun (i : Nat) => D.int i) ?_ fun i hi => ?_
      · show dRange1 (.int (xs.length : Int)) = _
        exact dRange1_nat (by rw [szL_val] at hl; exact hl)
      · have hi' : i < xs.length := List.mem_range.mp hi
        have e : xs[i]? = some xs[i] := by simp [hi']
        have s := same_refl n xs[i] (by omega) (List.all_eq_true.mp q1 _ (List.getElem_mem hi'))
        simp [gTurn, dIdx_tup e, s, -dIdx]
    simp [f_same_L, m_same_L, c, fAll_true]

theorem same_int (i : Int) : f_same_L 8 [.int i, .int i] = .ok (.bl true) := same_refl 8 _ (by decide) rfl
/-- stones in the niches from 1 to m -/
def cntS (r : List Int) (m : Int) : Nat := r.countP fun p => decide (1 ≤ p) && decide (p ≤ m)
theorem cnt_zero (r : List Int) : cntS r 0 = 0 := by
  unfold cntS
  rw [List.countP_eq_zero]
  intro p _
  simp
  omega
theorem cnt_succ (r : List Int) (hr : r.Nodup) (m : Int) (hm : 0 ≤ m) : cntS r (m + 1) = cntS r m + (if m + 1 ∈ r then 1 else 0) := by
  unfold cntS
  induction r with
  | nil => simp
  | cons x r ih =>
    obtain ⟨h1, h2⟩ := List.nodup_cons.mp hr
    rw [List.countP_cons, List.countP_cons, ih h2]
    by_cases c : x = m + 1
    · subst c
      have a1 : (decide (1 ≤ m + 1) && decide (m + 1 ≤ m + 1)) = true := by simp; omega
      have a2 : ¬ (decide (1 ≤ m + 1) && decide (m + 1 ≤ m)) = true := by simp; omega
      rw [if_pos a1, if_neg a2, if_neg h1, if_pos List.mem_cons_self]
    · have a1 : (decide (1 ≤ x) && decide (x ≤ m + 1)) = (decide (1 ≤ x) && decide (x ≤ m)) := by
        rw [Bool.eq_iff_iff]
        simp
        omega
      rw [a1]
      have a2 : (m + 1 ∈ x :: r) ↔ (m + 1 ∈ r) := by
        rw [List.mem_cons]
        constructor
        · rintro (z | z)
          · exact absurd z.symm c
          · exact z
        · exact fun z => .inr z
      by_cases c2 : m + 1 ∈ r
      · rw [if_pos c2, if_pos (a2.mpr c2)]
        omega
      · rw [if_neg c2, if_neg (fun z => c2 (a2.mp z))]
        omega
def soberN (n : Int) (r : List Int) : Prop := (∀ m : Nat, 1 ≤ m → (m : Int) ≤ n → 2 * (cntS r m : Int) ≤ m) ∧ ∀ p ∈ r, 1 ≤ p ∧ p ≤ n
theorem sober_iff (n : Int) (r : List Int) (hr : Rising r) : soberB n r = true ↔ soberN n r := by
  rw [soberB_iff]
  constructor
  · intro h
    have pos : ∀ p ∈ r, 1 ≤ p ∧ p ≤ n := fun p hp => by
      obtain ⟨k, hk, rfl⟩ := List.mem_iff_getElem.mp hp
      have := h k hk
      omega
    refine ⟨fun m h1 h2 => ?_, pos⟩
    by_cases z : cntS r m = 0
    · omega
    · have hc : cntS r m ≤ r.length := List.countP_le_length
      have hk : cntS r m - 1 < r.length := by omega
      have le : r[cntS r m - 1] ≤ m := by
        refine Int.not_lt.mp fun gt => ?_
        have e : r = r.take (cntS r m - 1) ++ r.drop (cntS r m - 1) := (List.take_append_drop _ _).symm
        have c2 : (r.drop (cntS r m - 1)).countP (fun p => decide (1 ≤ p) && decide (p ≤ (m : Int))) = 0 := by
          rw [List.countP_eq_zero]
          intro p hp
          obtain ⟨i, hi, rfl⟩ := List.mem_iff_getElem.mp hp
          rw [List.getElem_drop]
          rw [List.length_drop] at hi
          have : r[cntS r m - 1] ≤ r[cntS r m - 1 + i] := by
            by_cases i0 : i = 0
            · subst i0; exact Int.le_refl _
            · exact Int.le_of_lt (List.pairwise_iff_getElem.mp hr _ _ (by omega) (by omega) (by omega))
          simp
          omega
        have c1 : cntS r m = (r.take (cntS r m - 1)).countP (fun p => decide (1 ≤ p) && decide (p ≤ (m : Int))) + (r.drop (cntS r m - 1)).countP (fun p => decide (1 ≤ p) && decide (p ≤ (m : Int))) := by
          rw [← List.countP_append, List.take_append_drop]
          rfl
        have c3 : (r.take (cntS r m - 1)).countP (fun p => decide (1 ≤ p) && decide (p ≤ (m : Int))) ≤ (r.take (cntS r m - 1)).length := List.countP_le_length
        rw [List.length_take] at c3
        omega
      have := h (cntS r m - 1) hk
      omega
  · intro ⟨h1, h2⟩ k hk
    have hp := h2 _ (List.getElem_mem hk)
    refine ⟨?_, hp.2⟩
    have a := h1 r[k].toNat (by omega) (by omega)
    rw [Int.toNat_of_nonneg (by omega)] at a
    have b : k + 1 ≤ cntS r r[k] := by
      unfold cntS
      have c1 : (r.take (k + 1)).countP (fun p => decide (1 ≤ p) && decide (p ≤ r[k])) = (r.take (k + 1)).length := by
        rw [List.countP_eq_length]
        intro p hp
        obtain ⟨i, hi, rfl⟩ := List.mem_iff_getElem.mp hp
        rw [List.length_take] at hi
        rw [List.getElem_take]
        have g := h2 r[i] (List.getElem_mem (by omega))
        have : r[i] ≤ r[k] := by
          by_cases i0 : i = k
          · subst i0; exact Int.le_refl _
          · exact Int.le_of_lt (List.pairwise_iff_getElem.mp hr _ _ (by omega) (by omega) (by omega))
        simp
        omega
      have c2 := List.Sublist.countP_le (p := fun p => decide (1 ≤ p) && decide (p ≤ r[k])) (List.take_sublist (k + 1) r)
      rw [c1, List.length_take] at c2
      omega
    omega

/-- up to niche m the stones never outnumber the empty niches -/
theorem soberL_loop (n : Int) (r : List Int) (hr : Rising r) (hl : r.length ≤ 500) : ∀ (j m : Nat) (a : Option D), ∃ c b r',
    forL (.one 3) b_sober_L_1 ((List.range' (m + 1) j).map fun (i : Nat) => D.int i) [some (.int n), some (.lst (r.map D.int)), some (.int (cntS r m : Nat)), a, none] =
      if (List.range' (m + 1) j).all (fun i => decide (2 * (cntS r i : Int) ≤ i)) then .nx [some (.int n), some (.lst (r.map D.int)), c, b, none] else .rt (.bl false) r'
  | 0, m, a => ⟨_, _, [], rfl⟩
  | j + 1, m, a => by
    have nd : r.Nodup := List.Pairwise.imp (fun {a b} (h : a < b) => by omega) hr
    have hc := cnt_succ r nd (m : Int) (by omega)
    have hin := in_ints r ((m : Int) + 1) (by omega)
    have hm : ((m + 1 : Nat) : Int) = (m : Int) + 1 := by omega
    obtain ⟨c', b', r', e⟩ := soberL_loop n r hr hl j (m + 1) (some (.int ((m + 1 : Nat) : Int)))
    rw [List.range'_succ, List.map_cons, List.all_cons]
    by_cases q : 2 * (cntS r ((m + 1 : Nat) : Int) : Int) ≤ ((m + 1 : Nat) : Int)
    · refine ⟨c', b', r', ?_⟩
      rw [decide_eq_true q, Bool.true_and, ← e]
      refine forL_step (xs := [.int ((m + 1 : Nat) : Int)]) rfl ?_
      show b_sober_L_1 [some (.int n), some (.lst (r.map D.int)), some (.int (cntS r m : Nat)), some (.int ((m + 1 : Nat) : Int)), none] = .nx [some (.int n), some (.lst (r.map D.int)), some (.int (cntS r ((m + 1 : Nat) : Int) : Nat)), some (.int ((m + 1 : Nat) : Int)), none]
      rw [hm] at q ⊢
      rw [hc] at q ⊢
      by_cases c : (m : Int) + 1 ∈ r
      · rw [decide_eq_true c] at hin
        rw [if_pos c] at q ⊢
        have q' : ¬ ((m : Int) + 1 < 2 * ((cntS r m : Int) + 1)) := by omega
        have m2 := mul2 ((cntS r m : Int) + 1)
        generalize cntS r m = cn at *
        generalize r.map D.int = rr at *
        generalize (m : Int) + 1 = mm at *
        simp [b_sober_L_1, hin, m2, q', noX]
      · rw [decide_eq_false c] at hin
        rw [if_neg c] at q ⊢
        have q' : ¬ ((m : Int) + 1 < 2 * (cntS r m : Int)) := by omega
        have m2 := mul2 (cntS r m : Int)
        generalize cntS r m = cn at *
        generalize r.map D.int = rr at *
        generalize (m : Int) + 1 = mm at *
        simp [b_sober_L_1, hin, m2, q', noX]
    · refine ⟨none, none, [some (.int n), some (.lst (r.map D.int)), some (.int (cntS r ((m + 1 : Nat) : Int) : Nat)), some (.int ((m + 1 : Nat) : Int)), none], ?_⟩
      rw [decide_eq_false q, Bool.false_and, if_neg (by simp)]
      show (match b_sober_L_1 [some (.int n), some (.lst (r.map D.int)), some (.int (cntS r m : Nat)), some (.int ((m + 1 : Nat) : Int)), none] with
        | .nx r' => forL (.one 3) b_sober_L_1 _ r'
        | o => o) = _
      have b : b_sober_L_1 [some (.int n), some (.lst (r.map D.int)), some (.int (cntS r m : Nat)), some (.int ((m + 1 : Nat) : Int)), none] = .rt (.bl false) [some (.int n), some (.lst (r.map D.int)), some (.int (cntS r ((m + 1 : Nat) : Int) : Nat)), some (.int ((m + 1 : Nat) : Int)), none] := by
        rw [hm] at q ⊢
        rw [hc] at q ⊢
        by_cases c : (m : Int) + 1 ∈ r
        · rw [decide_eq_true c] at hin
          rw [if_pos c] at q ⊢
          have q' : ((m : Int) + 1 < 2 * ((cntS r m : Int) + 1)) := by omega
          have m2 := mul2 ((cntS r m : Int) + 1)
          generalize cntS r m = cn at *
          generalize r.map D.int = rr at *
          generalize (m : Int) + 1 = mm at *
          simp [b_sober_L_1, hin, m2, q', noX]
        · rw [decide_eq_false c] at hin
          rw [if_neg c] at q ⊢
          have q' : ((m : Int) + 1 < 2 * (cntS r m : Int)) := by omega
          have m2 := mul2 (cntS r m : Int)
          generalize cntS r m = cn at *
          generalize r.map D.int = rr at *
          generalize (m : Int) + 1 = mm at *
          simp [b_sober_L_1, hin, m2, q', noX]
      rw [b]
theorem all_bls : ∀ (r : List Int) (f : Int → Bool), blsOf (r.map fun v => D.bl (f v)) = some (r.map f)
  | [], _ => rfl
  | _ :: r, f => by
    show (blsOf (r.map fun v => D.bl (f v))).map _ = _
    rw [all_bls r f]
    rfl
theorem sober_L_ok (n : Int) (r : List Int) (hr : Rising r) (hl : r.length ≤ 500) (h0 : 0 ≤ n) (h1 : n ≤ 1000) : f_sober_L [.int n, .lst (r.map D.int)] = .ok (.bl (soberB n r)) := by
  obtain ⟨N, rfl⟩ : ∃ N : Nat, n = (N : Int) := ⟨n.toNat, by omega⟩
  have d : dRange2 (.int 1) (.int ((N : Int) + 1)) = .ok ((List.range' 1 N).map fun (i : Nat) => D.int i) := dRange2_gen 1 (N + 1) (by decide) (by omega)
  obtain ⟨sc, sb, r', e⟩ := soberL_loop N r hr hl N 0 none
  rw [show ((0 : Nat) : Int) = 0 from rfl, cnt_zero] at e
  have iff1 := sober_iff (N : Int) r hr
  have lp : (List.range' 1 N).all (fun i => decide (2 * (cntS r i : Int) ≤ i)) = true ↔ ∀ m : Nat, 1 ≤ m → (m : Int) ≤ (N : Int) → 2 * (cntS r m : Int) ≤ m := by
    rw [List.all_eq_true]
    constructor
    · intro h m a b
      have := h m (List.mem_range'_1.mpr ⟨a, by omega⟩)
      simpa using this
    · intro h m hm
      have := List.mem_range'_1.mp hm
      simpa using h m this.1 (by omega)
  have e' : forL (.one 3) b_sober_L_1 ((List.range' 1 N).map fun (i : Nat) => D.int i) [some (.int (N : Int)), some (.lst (r.map D.int)), some (.int 0), none, none] = if (List.range' 1 N).all (fun i => decide (2 * (cntS r i : Int) ≤ i)) then .nx [some (.int (N : Int)), some (.lst (r.map D.int)), sc, sb, none] else .rt (.bl false) r' := e
  have cp : gComp (gIter (gVar 1)) (.one 4) [4] gYes (gChain dLe dLe (gC (.int 1)) (gVar 4) (gVar 0)) [some (.int (N : Int)), some (.lst (r.map D.int)), sc, sb, none] = .ok (.lst (r.map fun v => D.bl (decide (1 ≤ v) && decide (v ≤ (N : Int))))) := by
    refine gComp_map (l := r) (F := D.int) rfl fun v _ => ?_
    by_cases c1 : 1 ≤ v
    · by_cases c2 : v ≤ (N : Int) <;> simp [gTurn, c1, c2]
    · simp [gTurn, c1]
  have al : fAll [.lst (r.map fun v => D.bl (decide (1 ≤ v) && decide (v ≤ (N : Int))))] = .ok (.bl (r.all fun v => decide (1 ≤ v) && decide (v ≤ (N : Int)))) := by
    dsimp only [fAll]
    rw [all_bls]
    simp
  generalize (List.range' 1 N).map (fun (i : Nat) => D.int i) = rg at *
  cases q : (List.range' 1 N).all (fun i => decide (2 * (cntS r i : Int) ≤ i)) with
  | false =>
    rw [q, if_neg (by simp)] at e'
    have f : soberB (N : Int) r = false := by
      cases qq : soberB (N : Int) r with
      | false => rfl
      | true => rw [lp.mpr (iff1.mp qq).1] at q; cases q
    rw [f]
    generalize r.map D.int = rr at *
    simp [f_sober_L, m_sober_L, d, e']
  | true =>
    rw [q, if_pos rfl] at e'
    have f : soberB (N : Int) r = r.all fun v => decide (1 ≤ v) && decide (v ≤ (N : Int)) := by
      rw [Bool.eq_iff_iff, iff1, List.all_eq_true]
      constructor
      · intro h p hp
        have := h.2 p hp
        simp
        omega
      · intro h
        refine ⟨lp.mp q, fun p hp => ?_⟩
        have := h p hp
        simp at this
        omega
    rw [f]
    generalize (r.map fun v => D.bl (decide (1 ≤ v) && decide (v ≤ (N : Int)))) = bb at *
    generalize (r.all fun v => decide (1 ≤ v) && decide (v ≤ (N : Int))) = bo at *
    generalize r.map D.int = rr at *
    simp [f_sober_L, m_sober_L, d, e', cp, al]

theorem ripes_comp (ps : List (Int × Int)) (q : Int) (R0 x y z : Option D) : gComp (gIter (gVar 1)) (.tup [4, 5]) [4, 5] (gTest (gBin dEq (gVar 5) (gBin dSub (gBin dSub (gVar 2) (gC (.int 1))) (gBin dMul (gC (.int 2)) (gCall f_lesser_L (VL.gCons (gVar 1) (VL.gCons (gVar 4) VL.gNil))))))) (gVar 4) [R0, some (.lst (ps.map twoD)), some (.int q), x, y, z] = .ok (.lst ((ripes ps (q - 1)).map D.int)) := by
  have c := gComp_filter (gi := gIter (gVar 1)) (t := .tup [4, 5]) (vs := [4, 5]) (tt := gTest (gBin dEq (gVar 5) (gBin dSub (gBin dSub (gVar 2) (gC (.int 1))) (gBin dMul (gC (.int 2)) (gCall f_lesser_L (VL.gCons (gVar 1) (VL.gCons (gVar 4) VL.gNil))))))) (ge := gVar 4)
    (r := [R0, some (.lst (ps.map twoD)), some (.int q), x, y, z]) (l := ps) (F := twoD) (p := fun p => vac ps p == q - 1) (G := fun p => D.int p.1) rfl (fun p _ => by
      have v := vac_iff ps p (q - 1)
      by_cases c : p.2 = q - 1 - 2 * share ps p.1
      · simp [gTurn, twoD, lesser_ok, mul2, c, v.mp c]
      · have c3 : ¬ vac ps p = q - 1 := fun z => c (v.mpr z)
        simp [gTurn, twoD, lesser_ok, mul2, c, c3])
  rw [c]
  simp [ripes]
theorem fMaxD_ripes (ps : List (Int × Int)) (q : Int) : fMaxD (.lst ((ripes ps q).map D.int)) (.int 0) = .ok (.int (longest ps q)) := by
  dsimp only [fMaxD]
  rw [intsOf_map]
  unfold longest
  dsimp only
  split <;> rfl
theorem list_step (s : List (Int × Int)) (p : Int) (h1 : Posi s) (hz : s.length < 600) (R0 a b c : Option D) : ∃ a' b' c', b_list_L_1 [R0, some (.lst (s.map twoD)), some (.int p), a, b, c] = .nx [R0, some (.lst ((grow s p).map twoD)), some (.int p), a', b', c'] := by
  have cc := ripes_comp s p R0 a b c
  have mx := fMaxD_ripes s (p - 1)
  refine ⟨some (.lst ((ripes s (p - 1)).map D.int)), some (.int (longest s (p - 1))), c, ?_⟩
  generalize (ripes s (p - 1)).map D.int = rp at *
  by_cases c0 : 0 < longest s (p - 1)
  · have rm := remL_ok (x := (longest s (p - 1), p - 1 - 2 * share s (longest s (p - 1)))) (longest_mem c0) (le_szL (by omega))
    have l1 : (s.erase (longest s (p - 1), p - 1 - 2 * share s (longest s (p - 1)))).length < szL := lt_szL (Nat.lt_of_le_of_lt List.length_erase_le (by omega))
    unfold grow
    rw [if_pos c0]
    generalize longest s (p - 1) = L at *
    generalize s.erase (L, p - 1 - 2 * share s L) = fr at *
    have ar : share fr (L + 1) + L + 1 = share fr (L + 1) + lsr (L + 1) (L + 1) := by rw [lsr_self]; omega
    rw [← app_pair, ar]
    simp [b_list_L_1, cc, mx, c0, lesser_ok, rm, lesser_app, mul2, l1, ixN_snoc, set_last, noX]
  · have l1 : s.length < szL := lt_szL (by omega)
    unfold grow
    rw [if_neg c0]
    generalize longest s (p - 1) = L at *
    have ar : share s (L + 1) + L + 1 = share s (L + 1) + lsr (L + 1) (L + 1) := by rw [lsr_self]; omega
    rw [← app_pair, ar]
    simp [b_list_L_1, cc, mx, c0, lesser_ok, lesser_app, mul2, l1, ixN_snoc, set_last, noX]
theorem list_L_ok (r : List Int) (hl : r.length ≤ 500) : f_list_L [.lst (r.map D.int)] = .ok (.lst ((lists r).map twoD)) := by
  obtain ⟨r', e, _, _, a, b, c, d, hr⟩ := forL_foldI D.int grow (fun n s t => Posi s ∧ s.length ≤ n ∧ ∃ a b c d, t = [some (.lst (r.map D.int)), some (.lst (s.map twoD)), a, b, c, d]) (.one 2) b_list_L_1 r 0 [] [some (.lst (r.map D.int)), some (.lst []), none, none, none, none] ⟨fun p hp => (nomatch hp), by simp, none, none, none, none, rfl⟩ (fun i p hi hp s t ⟨h1, h2, a, b, c, d, e⟩ => by
    subst e
    obtain ⟨a', b', c', e⟩ := list_step s p h1 (by omega) (some (.lst (r.map D.int))) b c d
    exact ⟨[.int p], _, rfl, e, grow_posi h1 p, by have := grow_len s p; omega, _, _, _, _, rfl⟩)
  subst hr
  have hs : fSorted [.lst ((r.foldl grow []).map twoD)] = _ := heap_sorted r
  simp [f_list_L, m_list_L, e, hs]

/-! ### law k38 -/
theorem mc_pos : ∀ t k : Nat, 0 < mc (t + 1) k
  | t, 0 => by rw [mc_0]; decide
  | t, k + 1 => by
    have := mc_pos t k
    have e : mc (t + 1) (k + 1) = mc t (k + 1) + mc (t + 1) k := mc_s t k
    omega
theorem prodN_pos : ∀ gs : List (Int × Nat × Int), (∀ g ∈ gs, 0 ≤ g.2.2) → 0 < prodN gs
  | [], _ => by decide
  | g :: gs, h => by
    have a := prodN_pos gs fun x hx => h x (List.mem_cons_of_mem _ hx)
    have b := h g List.mem_cons_self
    unfold prodN
    obtain ⟨t, ht⟩ : ∃ t, (g.2.2 + 1).toNat = t + 1 := ⟨g.2.2.toNat, by omega⟩
    rw [ht]
    exact Nat.mul_pos (mc_pos t _) a
theorem mins_le (s : Int) : ∀ ss : List Int, (ss.map fun o => if o < s then o else s).sum ≤ ss.sum
  | [] => by simp
  | o :: ss => by
    have := mins_le s ss
    simp only [List.map_cons, List.sum_cons]
    split <;> omega
theorem groups_room0 (n : Int) (ss : List Int) (h : 2 * ss.sum ≤ n) : ∀ g ∈ groupsZ n ss, 0 ≤ g.2.2 := by
  intro g hg
  obtain ⟨s, hs, rfl⟩ := List.mem_map.mp hg
  have := mins_le s ss
  show 0 ≤ roomZ n ss s
  unfold roomZ
  omega
theorem dLt_self (d : PyData) : PySem.W.dataLt d d = false := PyProof.Rows.lex_irrefl _
theorem rnum_lenK (n : Int) (ss : List Int) {m : Nat} (h : m < prodN (groupsZ n ss)) : (rnum (groupsZ n ss) m).length = ss.length := by
  have := congrArg List.length (rnum_szs n ss h)
  rw [List.length_map, (sortBy_perm ss).length_eq] at this
  exact this
/-- a number and its list -/
def numD (gs : List (Int × Nat × Int)) (m : Nat) : D := .tup [.int (m : Nat), .lst ((rnum gs m).map twoD)]
theorem lexLt_two {A B : List (Int × Int)} (h : lexP A B) : PySem.W.dataLt (.list (toPys (A.map twoD))) (.list (toPys (B.map twoD))) = true ∧ PySem.W.dataLt (.list (toPys (B.map twoD))) (.list (toPys (A.map twoD))) = false := by
  have a : PySem.W.dataLt (.list (toPys (A.map twoD))) (.list (toPys (B.map twoD))) = true := by
    rw [PySem.W.dataLt_list]
    exact lexP_lt A B h
  refine ⟨a, ?_⟩
  cases q : PySem.W.dataLt (.list (toPys (B.map twoD))) (.list (toPys (A.map twoD))) with
  | false => rfl
  | true =>
    have t := PyProof.Rows.lex_trans _ _ _ a q
    rw [PyProof.Rows.lex_irrefl] at t
    cases t
theorem alike_num (gs : List (Int × Nat × Int)) (a b : Nat) : PySem.W.alike (toPy (numD gs a)) (toPy (numD gs b)) = true ∧ PySem.W.alike (toPy (keyAtD 1 (numD gs a))) (toPy (keyAtD 1 (numD gs b))) = true := by
  have al := alike_pairs (rnum gs a) (rnum gs b)
  have al2 : PySem.W.alike (.list (toPys ((rnum gs a).map twoD))) (.list (toPys ((rnum gs b).map twoD))) = true := by
    rw [PySem.W.alike]
    exact al
  refine ⟨?_, al2⟩
  show PySem.W.alike (.tuple [.int (a : Nat), .list (toPys ((rnum gs a).map twoD))]) (.tuple [.int (b : Nat), .list (toPys ((rnum gs b).map twoD))]) = true
  generalize toPys ((rnum gs a).map twoD) = x at *
  generalize toPys ((rnum gs b).map twoD) = y at *
  rw [PySem.W.alike, PySem.W.alikeAll, PySem.W.alikeAll, al2]
  simp [PySem.W.alike, PySem.W.alikeAll]
theorem le_num (gs : List (Int × Nat × Int)) {a b : Nat} (ha : a < prodN gs) (hb : b < prodN gs) : leD (numD gs a) (numD gs b) = decide (a ≤ b) ∧ leK 1 (numD gs a) (numD gs b) = decide (a ≤ b) := by
  have k : PySem.W.dataLt (.list (toPys ((rnum gs b).map twoD))) (.list (toPys ((rnum gs a).map twoD))) = decide (b < a) := by
    rcases Nat.lt_trichotomy a b with h | h | h
    · rw [(lexLt_two (rnum_lex gs a b h hb)).2, decide_eq_false (by omega)]
    · subst h
      rw [dLt_self, decide_eq_false (by omega)]
    · rw [(lexLt_two (rnum_lex gs b a h ha)).1, decide_eq_true h]
  constructor
  · show (!PySem.W.dataLt (.tuple [.int (b : Nat), .list (toPys ((rnum gs b).map twoD))]) (.tuple [.int (a : Nat), .list (toPys ((rnum gs a).map twoD))])) = _
    by_cases c : a = b
    · subst c
      rw [dLt_self]
      simp
    · have al2 : PySem.W.alike (.list (toPys ((rnum gs b).map twoD))) (.list (toPys ((rnum gs a).map twoD))) = true := (alike_num gs b a).2
      rw [PySem.W.dataLt_pair (by simp [PySem.W.alike]) al2, PySem.W.dataLt_int]
      have ne : PyData.eqv (.int (b : Nat)) (.int (a : Nat)) = false := by
        have : ¬ (b : Int) = (a : Int) := by omega
        simp [PyData.eqv, this]
      rw [ne, if_neg (by simp)]
      by_cases d : (b : Int) < (a : Int)
      · rw [decide_eq_true d, decide_eq_false (by omega)]; rfl
      · rw [decide_eq_false d, decide_eq_true (by omega)]; rfl
  · show (!PySem.W.dataLt (.list (toPys ((rnum gs b).map twoD))) (.list (toPys ((rnum gs a).map twoD)))) = _
    rw [k]
    by_cases d : b < a
    · rw [decide_eq_true d, decide_eq_false (by omega)]; rfl
    · rw [decide_eq_false d, decide_eq_true (by omega)]; rfl
theorem sort_num (n : Int) (ss : List Int) (hS : Siz ss) (ms : List Nat) (hm : ∀ m ∈ ms, m < prodN (groupsZ n ss)) (hl : ms.length ≤ 60) :
    ∃ d, dSortD (.lst (ms.map (numD (groupsZ n ss)))) = .ok d ∧ dSortK 1 (.lst (ms.map (numD (groupsZ n ss)))) = .ok d ∧ dEq d d = .ok (.bl true) := by
  have hsl := hS.len
  generalize hgs : groupsZ n ss = gs at *
  have hlen : ∀ m ∈ ms, (rnum gs m).length ≤ 60 := fun m h => by
    have := rnum_lenK n ss (m := m) (by rw [hgs]; exact hm m h)
    rw [hgs] at this
    omega
  have pk : ∀ m ∈ ms, pl 5 (.lst ((rnum gs m).map twoD)) = true := fun m h => pl_pairs (n := 2) (le_szL (by have := hlen m h; omega))
  have pf : ∀ m ∈ ms, pl 6 (numD gs m) = true := fun m h => by
    have a := pk m h
    have s2 : (2 : Nat) ≤ szL := le_szL (by decide)
    unfold numD
    generalize D.lst ((rnum gs m).map twoD) = z at *
    show ([D.int (m : Nat), z].all (pl 5) && decide (2 ≤ szL)) = true
    rw [decide_eq_true s2, Bool.and_true, List.all_cons, List.all_cons, a]
    rfl
  have o1 : okSort (ms.map (numD gs)) = true := by
    unfold okSort
    rw [Bool.and_eq_true, List.all_eq_true]
    refine ⟨fun d hd => ?_, ?_⟩
    · obtain ⟨t, h1, rfl⟩ := List.mem_map.mp hd
      have p := pf t h1
      have l := (pl_lay 6 _ p).2
      rw [pl_shp (n := 6) (by decide) p, decide_eq_true (by omega), Bool.true_and, Bool.true_and, List.all_eq_true]
      intro d2 hd2
      obtain ⟨t2, h2, rfl⟩ := List.mem_map.mp hd2
      exact (alike_num gs t t2).1
    · rw [Bool.or_eq_true]
      left
      rw [List.all_eq_true]
      intro d hd
      obtain ⟨t, h1, rfl⟩ := List.mem_map.mp hd
      rfl
  have o2 : okSort ((ms.map (numD gs)).map (keyAtD 1)) = true := by
    unfold okSort
    rw [Bool.and_eq_true, List.all_eq_true]
    refine ⟨fun d hd => ?_, ?_⟩
    · obtain ⟨d1, hd1, rfl⟩ := List.mem_map.mp hd
      obtain ⟨t, h1, rfl⟩ := List.mem_map.mp hd1
      have p : pl 5 (keyAtD 1 (numD gs t)) = true := pk t h1
      have l := (pl_lay 5 _ p).2
      rw [pl_shp (n := 5) (by decide) p, decide_eq_true (by omega), Bool.true_and, Bool.true_and, List.all_eq_true]
      intro d2 hd2
      obtain ⟨d3, hd3, rfl⟩ := List.mem_map.mp hd2
      obtain ⟨t2, h2, rfl⟩ := List.mem_map.mp hd3
      exact (alike_num gs t t2).2
    · rw [Bool.or_eq_true]
      right
      rw [List.all_eq_true]
      intro d hd
      obtain ⟨d1, hd1, rfl⟩ := List.mem_map.mp hd
      obtain ⟨t, h1, rfl⟩ := List.mem_map.mp hd1
      rfl
  have o3 : (ms.map (numD gs)).all (isTupJ 1) = true := by
    rw [List.all_eq_true]
    intro d hd
    obtain ⟨t, h1, rfl⟩ := List.mem_map.mp hd
    rfl
  have e1 : (ms.mergeSort fun a b => decide (a ≤ b)).map (numD gs) = (ms.map (numD gs)).mergeSort leD := List.map_mergeSort fun a ha b hb => (le_num gs (hm a ha) (hm b hb)).1.symm
  have e2 : (ms.mergeSort fun a b => decide (a ≤ b)).map (numD gs) = (ms.map (numD gs)).mergeSort (leK 1) := List.map_mergeSort fun a ha b hb => (le_num gs (hm a ha) (hm b hb)).2.symm
  refine ⟨.lst ((ms.mergeSort fun a b => decide (a ≤ b)).map (numD gs)), ?_, ?_, ?_⟩
  · unfold dSortD
    dsimp only
    rw [if_pos o1, e1]
  · unfold dSortK
    dsimp only
    rw [o3, o2, e2]
    rfl
  · refine dEq_self (n := 7) (by decide) ?_
    show (((ms.mergeSort fun a b => decide (a ≤ b)).map (numD gs)).all (pl 6) && decide (((ms.mergeSort fun a b => decide (a ≤ b)).map (numD gs)).length ≤ szL)) = true
    rw [decide_eq_true (le_szL (by rw [List.length_map, List.length_mergeSort]; omega)), Bool.and_true, List.all_eq_true]
    intro d hd
    obtain ⟨t, h1, rfl⟩ := List.mem_map.mp hd
    exact pf t ((List.mergeSort_perm ms _).mem_iff.mp h1)
/-- sizes left out till they fit -/
theorem cut_loop (a b : Option D) (n : Int) (hn : 41 ≤ n) (z4 z5 z6 z7 z8 z9 : Option D) : ∀ (k : Nat) (ss : List Int) (fuel : Nat), ss.length = k + 1 → (∀ s ∈ ss, 1 ≤ s ∧ s ≤ 12) → k < fuel → k ≤ 20 →
    ∃ s2 : List Int, whileL (gOr (gTest (gBin dGt (gCall fSum (VL.gCons (gVar 3) VL.gNil)) (gC (.int 60)))) (gTest (gBin dGt (gBin dMul (gC (.int 2)) (gCall fSum (VL.gCons (gVar 3) VL.gNil))) (gVar 2)))) b_law_1 fuel [a, b, some (.int n), some (.lst (ss.map D.int)), z4, z5, z6, z7, z8, z9] = .nx [a, b, some (.int n), some (.lst (s2.map D.int)), z4, z5, z6, z7, z8, z9] ∧
      (∀ s ∈ s2, 1 ≤ s) ∧ s2.sum ≤ 60 ∧ 2 * s2.sum ≤ n
  | k, ss, 0, _, _, h, _ => absurd h (by omega)
  | k, ss, fuel + 1, hl, hs, hk, hk2 => by
    have sm := fSum_ints ss
    have mm : dMul (.int 2) (.int ss.sum) = _ := dMul_ok (mulOk_left (by decide) (by decide))
    by_cases c : 60 < ss.sum ∨ n < 2 * ss.sum
    · cases ss with
      | nil => simp at hl
      | cons x t =>
        cases t with
        | nil =>
          have := hs x List.mem_cons_self
          simp only [List.sum_cons, List.sum_nil] at c
          omega
        | cons y t =>
          cases k with
          | zero => simp at hl
          | succ k =>
            have tl : t.length = k := by simpa using hl
            obtain ⟨s2, e, r⟩ := cut_loop a b n hn z4 z5 z6 z7 z8 z9 k (y :: t) fuel (by simp [tl]) (fun s h => hs s (List.mem_cons_of_mem _ h)) (by omega) (by omega)
            refine ⟨s2, ?_, r⟩
            rw [← e]
            have l1 : ((x :: y :: t).map D.int).length < szL := lt_szL (by simp; omega)
            have l2 : ((y :: t).map D.int).length ≤ szL := le_szL (by simp; omega)
            refine whileL_turn ?_ ?_
            · generalize (x :: y :: t).sum = S at *
              generalize (x :: y :: t).map D.int = L at *
              by_cases c1 : 60 < S
              · simp [sm, c1, -dMul]
              · have c2 : n < 2 * S := by omega
                simp [sm, mm, c1, c2, -dMul]
            · have lx : ∃ i : Int, i = ((x :: y :: t).length : Nat) ∧ i ≠ 1 := ⟨_, rfl, by simp only [List.length_cons]; omega⟩
              obtain ⟨i, hi, hi1⟩ := lx
              have sl : dSlL (.lst ((x :: y :: t).map D.int)) (some 1) none = .ok (.lst ((y :: t).map D.int)) := by
                show R.ok (D.lst (cutL _ _ _)) = _
                rw [cutL_fromG (k := 1)]
                rfl
              have ix : dIdx (.lst ((x :: y :: t).map D.int)) (.int 0) = .ok (.int x) := dIdx_list (i := 0) rfl
              obtain ⟨M, hM⟩ : ∃ M : Int, fMax2 [.int 1, .int (x - 5)] = .ok (.int M) := by
                by_cases q : 1 < x - 5
                · exact ⟨x - 5, by simp [fMax2, q]⟩
                · exact ⟨1, by simp [fMax2, q]⟩
              have ln : fLen [.lst ((x :: y :: t).map D.int)] = .ok (.int i) := by
                rw [hi]
                simp [fLen]
              have eq1 : dEq (.int i) (.int 1) = .ok (.bl false) := by
                rw [dEq_int]
                simp [hi1]
              have mu : dMul (.lst [.int M]) (.int 0) = .ok (.lst []) := by
                have i6 := i63_val
                simp [dMul, i6]
              have ad : dAdd (.lst ((y :: t).map D.int)) (.lst []) = .ok (.lst ((y :: t).map D.int)) := by
                have l3 : ((y :: t).map D.int).length + 0 ≤ szL := l2
                unfold dAdd
                simp
                simpa using l3
              generalize (x :: y :: t).map D.int = L at *
              generalize (y :: t).map D.int = L2 at *
              simp [b_law_1, sl, ix, hM, ln, eq1, mu, ad, -dSlL, -dIdx, -fMax2, -fLen, -dMul, -dAdd]
    · refine ⟨ss, whileL_fin ?_, fun s h => (hs s h).1, by omega, by omega⟩
      have c1 : ¬ 60 < ss.sum := by omega
      have c2 : ¬ n < 2 * ss.sum := by omega
      generalize ss.sum = S at *
      generalize ss.map D.int = L at *
      simp [sm, mm, c1, c2, -dMul]
/-- the number put together -/
theorem num_loop (l : List Int) (l1 : l.length = 40) (d1 : Drawn l) (x0 x2 x3 x5 x6 x9 : Option D) (k : Nat) (hk : k < 3) : ∀ (j s : Nat) (z : Int) (x8 : Option D), s + j = 6 →
    ∃ z' x8', forL (.one 8) b_law_2 ((List.range' s j).map fun (i : Nat) => D.int i) [x0, some (.lst (l.map D.int)), x2, x3, some (.int (k : Nat)), x5, x6, some (.int z), x8, x9] = .nx [x0, some (.lst (l.map D.int)), x2, x3, some (.int (k : Nat)), x5, x6, some (.int z'), x8', x9]
  | 0, s, z, x8, _ => ⟨z, x8, rfl⟩
  | j + 1, s, z, x8, h => by
    have f := fmod_pos (a := (k : Int) + 3 * (s : Int)) (b := 16) (by decide)
    obtain ⟨i, hi⟩ : ∃ i : Nat, ((k : Int) + 3 * (s : Int)).fmod 16 = (i : Int) := ⟨(((k : Int) + 3 * (s : Int)).fmod 16).toNat, by omega⟩
    obtain ⟨v, p, q, g⟩ := drawn_get d1 (i := 24 + i) (by omega) (j := 24 + (i : Int)) (by omega)
    obtain ⟨z', x8', e⟩ := num_loop l l1 d1 x0 x2 x3 x5 x6 x9 k hk j (s + 1) (z * 9967 + v) (some (.int (s : Nat))) (by omega)
    refine ⟨z', x8', ?_⟩
    rw [List.range'_succ, List.map_cons, ← e]
    refine forL_step (xs := [.int (s : Nat)]) rfl ?_
    show b_law_2 [x0, some (.lst (l.map D.int)), x2, x3, some (.int (k : Nat)), x5, x6, some (.int z), some (.int (s : Nat)), x9] = .nx [x0, some (.lst (l.map D.int)), x2, x3, some (.int (k : Nat)), x5, x6, some (.int (z * 9967 + v)), some (.int (s : Nat)), x9]
    have m1 : dMul (.int z) (.int 9967) = _ := dMul_ok (mulOk_right (by decide) (by decide))
    have m2 : dMul (.int 3) (.int (s : Nat)) = _ := dMul_ok (mulOk_left (by decide) (by decide))
    generalize ((k : Nat) : Int) = ki at *
    generalize ((s : Nat) : Int) = si at *
    generalize ((i : Nat) : Int) = ii at *
    generalize l.map D.int = ll at *
    simp [b_law_2, m1, m2, hi, g, -dMul, -dIdx]
/-- one of the three turns -/
theorem turn38 (l : List Int) (l1 : l.length = 40) (d1 : Drawn l) (n : Int) (ss : List Int) (hS : Siz ss) (h0 : 0 ≤ n) (h1 : n ≤ 200) (hP : 0 < prodN (groupsZ n ss)) (x0 x7 x8 x9 : Option D) (k : Nat) (hk : k < 3) (ms : List Nat) (hms : ms.length ≤ 60) :
    ∃ m x8' x9', m < prodN (groupsZ n ss) ∧ b_law_3 [x0, some (.lst (l.map D.int)), some (.int n), some (.lst (ss.map D.int)), some (.int (k : Nat)), some (.int (prodN (groupsZ n ss) : Nat)), some (.lst (ms.map (numD (groupsZ n ss)))), x7, x8, x9] = .nx [x0, some (.lst (l.map D.int)), some (.int n), some (.lst (ss.map D.int)), some (.int (k : Nat)), some (.int (prodN (groupsZ n ss) : Nat)), some (.lst ((ms ++ [m]).map (numD (groupsZ n ss)))), some (.int (m : Nat)), x8', x9'] := by
  obtain ⟨v, p, q, g⟩ := drawn_get d1 (i := 20 + k) (by omega) (j := 20 + (k : Int)) (by omega)
  obtain ⟨z', x8', e⟩ := num_loop l l1 d1 x0 (some (.int n)) (some (.lst (ss.map D.int))) (some (.int (prodN (groupsZ n ss) : Nat))) (some (.lst (ms.map (numD (groupsZ n ss))))) x9 k hk 6 0 v x8 rfl
  have f := fmod_pos (a := z') (b := (prodN (groupsZ n ss) : Int)) (by omega)
  obtain ⟨m, hm⟩ : ∃ m : Nat, z'.fmod (prodN (groupsZ n ss) : Int) = (m : Int) := ⟨(z'.fmod (prodN (groupsZ n ss) : Int)).toNat, by omega⟩
  have hm1 : m < prodN (groupsZ n ss) := by omega
  have N := nrow n ss hS hm1
  have hl := hS.len
  have rn := row_numbered_any n ss hS h0 h1 m
  rw [if_neg (by omega), Int.toNat_natCast] at rn
  have so := sober_L_ok n _ N.ri (by have := N.ln; omega) h0 (by omega)
  rw [N.sb] at so
  have li := list_L_ok (stones (rnum (groupsZ n ss) m)) (by have := N.ln; omega)
  rw [N.li] at li
  have nf := nof_ok n _ N.ri N.ln h0 h1 N.sb
  rw [N.li, N.nm] at nf
  have sm := same_int (m : Int)
  have r6 : dRange1 (.int 6) = .ok ((List.range' 0 6).map fun (i : Nat) => D.int i) := by
    rw [← range_split]
    exact dRange1_nat (n := 6) (by decide)
  have pz : ¬ (prodN (groupsZ n ss) : Int) = 0 := by omega
  have lz : (ms.map (numD (groupsZ n ss))).length < szL := lt_szL (by rw [List.length_map]; omega)
  refine ⟨m, x8', some (.lst ((stones (rnum (groupsZ n ss) m)).map D.int)), hm1, ?_⟩
  have en : (ms ++ [m]).map (numD (groupsZ n ss)) = ms.map (numD (groupsZ n ss)) ++ [.tup [.int (m : Nat), .lst ((rnum (groupsZ n ss) m).map twoD)]] := by rw [List.map_append]; rfl
  rw [en]
  generalize ms.map (numD (groupsZ n ss)) = A at *
  generalize (rnum (groupsZ n ss) m).map twoD = q1 at *
  generalize (List.range' 0 6).map (fun (i : Nat) => D.int i) = r6l at *
  generalize (stones (rnum (groupsZ n ss) m)).map D.int = sr at *
  generalize ss.map D.int = sl at *
  generalize ((m : Nat) : Int) = mi at *
  generalize ((k : Nat) : Int) = ki at *
  generalize ((prodN (groupsZ n ss) : Nat) : Int) = PP at *
  generalize l.map D.int = ll at *
  unfold b_law_3
  rw [seq_nx (r' := [x0, some (.lst ll), some (.int n), some (.lst sl), some (.int ki), some (.int PP), some (.lst A), some (.int v), x8, x9]) (by simp [g, -dIdx]),
    seq_nx (r' := [x0, some (.lst ll), some (.int n), some (.lst sl), some (.int ki), some (.int PP), some (.lst A), some (.int z'), x8', x9]) (by simp [r6, e, -dRange1])]
  simp [pz, hm, rn, so, nf, sm, li, lz]
theorem loop38 (l : List Int) (l1 : l.length = 40) (d1 : Drawn l) (n : Int) (ss : List Int) (hS : Siz ss) (h0 : 0 ≤ n) (h1 : n ≤ 200) (hP : 0 < prodN (groupsZ n ss)) (x0 : Option D) : ∀ (j k : Nat) (ms : List Nat) (x4 x7 x8 x9 : Option D), k + j = 3 → ms.length = k → (∀ m ∈ ms, m < prodN (groupsZ n ss)) →
    ∃ (ms' : List Nat) (x4' x7' x8' x9' : Option D), ms'.length ≤ 60 ∧ (∀ m ∈ ms', m < prodN (groupsZ n ss)) ∧ forL (.one 4) b_law_3 ((List.range' k j).map fun (i : Nat) => D.int i) [x0, some (.lst (l.map D.int)), some (.int n), some (.lst (ss.map D.int)), x4, some (.int (prodN (groupsZ n ss) : Nat)), some (.lst (ms.map (numD (groupsZ n ss)))), x7, x8, x9] = .nx [x0, some (.lst (l.map D.int)), some (.int n), some (.lst (ss.map D.int)), x4', some (.int (prodN (groupsZ n ss) : Nat)), some (.lst (ms'.map (numD (groupsZ n ss)))), x7', x8', x9']
  | 0, k, ms, x4, x7, x8, x9, h, hl, hm => ⟨ms, x4, x7, x8, x9, by omega, hm, rfl⟩
  | j + 1, k, ms, x4, x7, x8, x9, h, hl, hm => by
    obtain ⟨m, x8', x9', hm1, e⟩ := turn38 l l1 d1 n ss hS h0 h1 hP x0 x7 x8 x9 k (by omega) ms (by omega)
    obtain ⟨ms', a, b, c, d, r1, r2, r3⟩ := loop38 l l1 d1 n ss hS h0 h1 hP x0 j (k + 1) (ms ++ [m]) (some (.int (k : Nat))) (some (.int (m : Nat))) x8' x9' (by omega) (by rw [List.length_append]; simp [hl]) (fun x hx => by
      rcases List.mem_append.mp hx with z | z
      · exact hm x z
      · have : x = m := by simpa using z
        rw [this]
        exact hm1)
    refine ⟨ms', a, b, c, d, r1, r2, ?_⟩
    rw [List.range'_succ, List.map_cons, ← r3]
    exact forL_step (xs := [.int (k : Nat)]) rfl e
theorem law_ok (ns : List Int) (hn : ns.length ≤ 63) : f_law [.scr ns] = .ok (.bl true) := by
  obtain ⟨l, e1, l1, d1⟩ := numbers_ok ns hn 40 (by decide)
  have e1' : f_numbers_L [.scr ns, .int 40] = _ := e1
  obtain ⟨v0, p0, q0, g0⟩ := drawn_get d1 (i := 0) (by omega) (j := 0) rfl
  obtain ⟨v1, p1, q1, g1⟩ := drawn_get d1 (i := 1) (by omega) (j := 1) rfl
  obtain ⟨v2, p2, q2, g2⟩ := drawn_get d1 (i := 2) (by omega) (j := 2) rfl
  obtain ⟨w, hw, ew⟩ := pick3 3 7 12 v1
  have f1 := fmod_pos (a := v0) (b := 160) (by decide)
  have f4 := fmod_pos (a := v2) (b := 9) (by decide)
  obtain ⟨n, hn0⟩ : ∃ n : Int, n = 41 + v0.fmod 160 := ⟨_, rfl⟩
  obtain ⟨m, hm⟩ : ∃ m : Nat, 1 + v2.fmod 9 = ((m + 1 : Nat) : Int) := ⟨(v2.fmod 9).toNat, by omega⟩
  have rg : dRange1 (.int ((m + 1 : Nat) : Int)) = _ := dRange1_nat (by omega)
  have s3 : (3 : Nat) ≤ szL := le_szL (by decide)
  have cp : gComp (gRange1 (gBin dAdd (gC (.int 1)) (gBin dMod (gBin dIdx (gVar 1) (gC (.int 2))) (gC (.int 9))))) (.one 4) [4] gYes (gBin dAdd (gC (.int 1)) (gBin dMod (gBin dIdx (gVar 1) (gBin dAdd (gC (.int 3)) (gVar 4))) (gBin dIdx (VL.gLst (VL.gCons (gC (.int 3)) (VL.gCons (gC (.int 7)) (VL.gCons (gC (.int 12)) VL.gNil)))) (gBin dMod (gBin dIdx (gVar 1) (gC (.int 1))) (gC (.int 3)))))) [some (.scr ns), some (.lst (l.map D.int)), some (.int n), none, none, none, none, none, none, none] = .ok (.lst ((List.range (m + 1)).map fun k => D.int (1 + (l.getD (3 + k) 0).fmod w))) := by
    refine gComp_map (l := List.range (m + 1)) (F := fun (i : Nat) => D.int i) ?_ fun k hk => ?_
    · rw [← rg]
      generalize l.map D.int = ll at *
      generalize ((m + 1 : Nat) : Int) = mi at *
      simp [g2, hm, -dIdx, -dRange1]
    · have hk' := List.mem_range.mp hk
      have gk : dIdx (.lst (l.map D.int)) (.int (3 + (k : Int))) = .ok (.int (l.getD (3 + k) 0)) := by
        rw [int_in (i := 3 + k) (by omega) (by omega), List.getD_eq_getElem?_getD, List.getElem?_eq_getElem (by omega)]
        rfl
      generalize l.getD (3 + k) 0 = x at *
      generalize l.map D.int = ll at *
      have w0 : ¬ w = 0 := by omega
      simp [gTurn, gk, g1, ew, w0, s3, -dIdx]
  have hss : ∀ s ∈ (List.range (m + 1)).map (fun k => 1 + (l.getD (3 + k) 0).fmod w), 1 ≤ s ∧ s ≤ 12 := fun s hs => by
    obtain ⟨k, _, rfl⟩ := List.mem_map.mp hs
    have := fmod_pos (a := l.getD (3 + k) 0) (b := w) (by omega)
    omega
  have cpe : ((List.range (m + 1)).map fun k => D.int (1 + (l.getD (3 + k) 0).fmod w)) = ((List.range (m + 1)).map fun k => 1 + (l.getD (3 + k) 0).fmod w).map D.int := by rw [List.map_map]; rfl
  rw [cpe] at cp
  have hsl : ((List.range (m + 1)).map fun k => 1 + (l.getD (3 + k) 0).fmod w).length = m + 1 := by rw [List.length_map, List.length_range]
  generalize (List.range (m + 1)).map (fun k => 1 + (l.getD (3 + k) 0).fmod w) = s0 at *
  obtain ⟨s2, ew2, hs2, hsum, hsn⟩ := cut_loop (some (.scr ns)) (some (.lst (l.map D.int))) n (by omega) none none none none none none m s0 WB hsl hss (by rw [WB_eq]; omega) (by omega)
  have hS : Siz s2 := ⟨hs2, hsum⟩
  have hP := prodN_pos (groupsZ n s2) (groups_room0 n s2 hsn)
  have ct := count_L_ok n s2 hS (by omega)
  rw [prodZ_N] at ct
  obtain ⟨ms, x4, x7, x8, x9, hl3, hm3, e3⟩ := loop38 l l1 d1 n s2 hS (by omega) (by omega) hP (some (.scr ns)) 3 0 [] none none none none rfl rfl (fun m h => nomatch h)
  have r3 : dRange1 (.int 3) = .ok ((List.range' 0 3).map fun (i : Nat) => D.int i) := by
    rw [← range_split]
    exact dRange1_nat (n := 3) (by decide)
  obtain ⟨d, o1, o2, o3⟩ := sort_num n s2 hS ms hm3 hl3
  have e3' : forL (.one 4) b_law_3 ((List.range' 0 3).map fun (i : Nat) => D.int i) [some (.scr ns), some (.lst (l.map D.int)), some (.int n), some (.lst (s2.map D.int)), none, some (.int (prodN (groupsZ n s2) : Nat)), some (.lst []), none, none, none] = _ := e3
  unfold f_law runF m_law
  show outF (mSeq _ _ [some (.scr ns), none, none, none, none, none, none, none, none, none]) = _
  generalize ms.map (numD (groupsZ n s2)) = A at *
  generalize (List.range' 0 3).map (fun (i : Nat) => D.int i) = r3l at *
  generalize ((prodN (groupsZ n s2) : Nat) : Int) = PP at *
  generalize s2.map D.int = sl at *
  generalize s0.map D.int = sl0 at *
  generalize l.map D.int = ll at *
  rw [seq_nx (r' := [some (.scr ns), some (.lst ll), none, none, none, none, none, none, none, none]) (by simp [e1']),
    seq_nx (r' := [some (.scr ns), some (.lst ll), some (.int n), none, none, none, none, none, none, none]) (by simp [g0, hn0, -dIdx]),
    seq_nx (r' := [some (.scr ns), some (.lst ll), some (.int n), some (.lst sl0), none, none, none, none, none, none]) (by simp [cp]),
    seq_nx ew2,
    seq_nx (r' := [some (.scr ns), some (.lst ll), some (.int n), some (.lst sl), none, some (.int PP), none, none, none, none]) (by simp [ct]),
    seq_nx (r' := [some (.scr ns), some (.lst ll), some (.int n), some (.lst sl), none, some (.int PP), some (.lst []), none, none, none]) (by simp),
    seq_nx (r' := [some (.scr ns), some (.lst ll), some (.int n), some (.lst sl), x4, some (.int PP), some (.lst A), x7, x8, x9]) (by simp [r3, e3', -dRange1])]
  simp [o1, o2, o3, -dSortD, -dSortK]


def methS (i j : Nat) : Stmt := match PySem.Challenge.pw_creelway_k38_great_niches_numbered.main.body.getD i (.Pass ⟨0, 0, 0, 0⟩) with
  | .ClassDef _ _ _ b _ _ _ _ _ _ _ => b.getD j (.Pass ⟨0, 0, 0, 0⟩)
  | s => s
def initS (i : Nat) : Stmt := match PySem.Challenge.pw_creelway_k38_great_niches_numbered.main.body.getD i (.Pass ⟨0, 0, 0, 0⟩) with
  | .ClassDef _ _ _ b _ _ _ _ _ _ _ => b.getD 0 (.Pass ⟨0, 0, 0, 0⟩)
  | s => s
def topS (i : Nat) : Stmt := PySem.Challenge.pw_creelway_k38_great_niches_numbered.main.body.getD i (.Pass ⟨0, 0, 0, 0⟩)
theorem nq_BadNumber : NmOk "BadNumber" := by constructor <;> decide
theorem nq_BadRow : NmOk "BadRow" := by constructor <;> decide
theorem nq_BadSizes : NmOk "BadSizes" := by constructor <;> decide
theorem nq_MOST_NICHES : NmOk "MOST_NICHES" := by constructor <;> decide
theorem nq_MOST_STONES : NmOk "MOST_STONES" := by constructor <;> decide
theorem nq_TooMany : NmOk "TooMany" := by constructor <;> decide
theorem nq__law_cell : NmOk "_law_cell" := by constructor <;> decide
theorem nq__law_choose : NmOk "_law_choose" := by constructor <;> decide
theorem nq__law_count : NmOk "_law_count" := by constructor <;> decide
theorem nq__law_count_here : NmOk "_law_count_here" := by constructor <;> decide
theorem nq__law_due : NmOk "_law_due" := by constructor <;> decide
theorem nq__law_found : NmOk "_law_found" := by constructor <;> decide
theorem nq__law_k : NmOk "_law_k" := by constructor <;> decide
theorem nq__law_lesser : NmOk "_law_lesser" := by constructor <;> decide
theorem nq__law_list : NmOk "_law_list" := by constructor <;> decide
theorem nq__law_many : NmOk "_law_many" := by constructor <;> decide
theorem nq__law_most : NmOk "_law_most" := by constructor <;> decide
theorem nq__law_niche : NmOk "_law_niche" := by constructor <;> decide
theorem nq__law_niches : NmOk "_law_niches" := by constructor <;> decide
theorem nq__law_number : NmOk "_law_number" := by constructor <;> decide
theorem nq__law_numbers : NmOk "_law_numbers" := by constructor <;> decide
theorem nq__law_numbers_here : NmOk "_law_numbers_here" := by constructor <;> decide
theorem nq__law_offset : NmOk "_law_offset" := by constructor <;> decide
theorem nq__law_own : NmOk "_law_own" := by constructor <;> decide
theorem nq__law_place : NmOk "_law_place" := by constructor <;> decide
theorem nq__law_rest : NmOk "_law_rest" := by constructor <;> decide
theorem nq__law_ripe : NmOk "_law_ripe" := by constructor <;> decide
theorem nq__law_row : NmOk "_law_row" := by constructor <;> decide
theorem nq__law_same : NmOk "_law_same" := by constructor <;> decide
theorem nq__law_script : NmOk "_law_script" := by constructor <;> decide
theorem nq__law_seed : NmOk "_law_seed" := by constructor <;> decide
theorem nq__law_size : NmOk "_law_size" := by constructor <;> decide
theorem nq__law_sizes : NmOk "_law_sizes" := by constructor <;> decide
theorem nq__law_sober : NmOk "_law_sober" := by constructor <;> decide
theorem nq__law_some : NmOk "_law_some" := by constructor <;> decide
theorem nq__law_space : NmOk "_law_space" := by constructor <;> decide
theorem nq__law_step : NmOk "_law_step" := by constructor <;> decide
theorem nq__law_stones : NmOk "_law_stones" := by constructor <;> decide
theorem nq__law_things : NmOk "_law_things" := by constructor <;> decide
theorem nq_at : NmOk "at" := by constructor <;> decide
theorem nq_best : NmOk "best" := by constructor <;> decide
theorem nq_by : NmOk "by" := by constructor <;> decide
theorem nq_chosen : NmOk "chosen" := by constructor <;> decide
theorem nq_found : NmOk "found" := by constructor <;> decide
theorem nq_fresh : NmOk "fresh" := by constructor <;> decide
theorem nq_groups : NmOk "groups" := by constructor <;> decide
theorem nq_grown : NmOk "grown" := by constructor <;> decide
theorem nq_is_sober : NmOk "is_sober" := by constructor <;> decide
theorem nq_left : NmOk "left" := by constructor <;> decide
theorem nq_list_of : NmOk "list_of" := by constructor <;> decide
theorem nq_longest_ripe : NmOk "longest_ripe" := by constructor <;> decide
theorem nq_look_niches : NmOk "look_niches" := by constructor <;> decide
theorem nq_look_row : NmOk "look_row" := by constructor <;> decide
theorem nq_look_sizes : NmOk "look_sizes" := by constructor <;> decide
theorem nq_low : NmOk "low" := by constructor <;> decide
theorem nq_made : NmOk "made" := by constructor <;> decide
theorem nq_many : NmOk "many" := by constructor <;> decide
theorem nq_mark : NmOk "mark" := by constructor <;> decide
theorem nq_most : NmOk "most" := by constructor <;> decide
theorem nq_next_place : NmOk "next_place" := by constructor <;> decide
theorem nq_niches : NmOk "niches" := by constructor <;> decide
theorem nq_number : NmOk "number" := by constructor <;> decide
theorem nq_number_among : NmOk "number_among" := by constructor <;> decide
theorem nq_number_of : NmOk "number_of" := by constructor <;> decide
theorem nq_offset : NmOk "offset" := by constructor <;> decide
theorem nq_offsets : NmOk "offsets" := by constructor <;> decide
theorem nq_offsets_numbered : NmOk "offsets_numbered" := by constructor <;> decide
theorem nq_other : NmOk "other" := by constructor <;> decide
theorem nq_own : NmOk "own" := by constructor <;> decide
theorem nq_place : NmOk "place" := by constructor <;> decide
theorem nq_product : NmOk "product" := by constructor <;> decide
theorem nq_rest : NmOk "rest" := by constructor <;> decide
theorem nq_rising : NmOk "rising" := by constructor <;> decide
theorem nq_room : NmOk "room" := by constructor <;> decide
theorem nq_row : NmOk "row" := by constructor <;> decide
theorem nq_row_numbered : NmOk "row_numbered" := by constructor <;> decide
theorem nq_share : NmOk "share" := by constructor <;> decide
theorem nq_shortest_ripe : NmOk "shortest_ripe" := by constructor <;> decide
theorem nq_shrunk : NmOk "shrunk" := by constructor <;> decide
theorem nq_size : NmOk "size" := by constructor <;> decide
theorem nq_sizes : NmOk "sizes" := by constructor <;> decide
theorem nq_step : NmOk "step" := by constructor <;> decide
theorem nq_stones_of : NmOk "stones_of" := by constructor <;> decide
theorem nq_things : NmOk "things" := by constructor <;> decide
theorem nq_trains : NmOk "trains" := by constructor <;> decide
theorem nq_trains_of : NmOk "trains_of" := by constructor <;> decide
theorem nq_ways : NmOk "ways" := by constructor <;> decide
abbrev st_look_row : Stmt := topS 8
abbrev N_look_row : List Str := ["row", "at"]
theorem sc_look_row : FnScope N_look_row ["row"] (defScope st_look_row) := ⟨rfl, rfl, rfl, by decide +kernel, rfl, by decide +kernel, by decide +kernel⟩
theorem nd_look_row : N_look_row.Nodup := sc_look_row.nd
theorem ok_look_row [md : Md] {P : Program} {w : World} {K : PySem.W.Frag} {mg : Str → Option Value} {base : Heap} {cl : Cl} {fa : Addr} {fd : FuncData} (B : Bl mg) (hK : cl.K = K) (F : Fun K "look_row" "look_row" st_look_row fa fd) (gm : mg "look_row" = some (.ref fa)) (bn : Binds K fd ["row"] []) {t_MOST_STONES : Tok} (C_MOST_STONES : mg "MOST_STONES" = some (.int 60 t_MOST_STONES)) (X_BadRow : XAt P w K mg base cl "BadRow" 1) (X_TooMany : XPlain K mg cl "TooMany") : Fi P w K mg base cl "look_row" 3 [false] .val f_look_row := by
  refine def_ok (ls := [.val]) (m := m_look_row) (ks' := [.bor, .val]) F sc_look_row gm bn rfl rfl rfl (.inl rfl) (fun cdv A outer s H E h0 s0 b0 hr => ?_)
  exact (sb_cons (ss_if (st_cmp op_gt opv_gt nox_gt ((sf_Len B (sa_b (se_varB (i := 0) (hq := nq_row)) sa_nil))).valBor ((se_globI C_MOST_STONES nq_MOST_STONES)).valBor)
  (sb_cons (ss_raise rfl X_TooMany nq_TooMany)
  sb_nil)
  sb_nil)
  (sb_cons (ss_for (passes_of rfl) rfl (si_range2 B.range (se_int).valBor ((sf_Len B (sa_b (se_varB (i := 0) (hq := nq_row)) sa_nil))).valBor) (sg_name nd_look_row) (fun s => (sb_cons (ss_if (st_cmp op_le opv_le nox_le ((se_ix (se_varB (i := 0) (hq := nq_row)) ((se_var (i := 1) (hq := nq_at))).valBor)).valBor ((se_ix (se_varB (i := 0) (hq := nq_row)) ((se_sub ((se_var (i := 1) (hq := nq_at))).valBor (se_int).valBor)).valBor)).valBor)
  (sb_cons (ss_raiseAt rfl X_BadRow (hr.mono (by decide)) (se_var (i := 1) (hq := nq_at)) nq_BadRow)
  sb_nil)
  sb_nil)
  sb_nil)) (by first | decide | simp [Tg.is]))
  sb_nil))
abbrev st_share : Stmt := topS 10
abbrev N_share : List Str := ["trains", "size", "own", "offset"]
theorem sc_share : FnScope N_share ["trains", "size"] (defScope st_share) := ⟨rfl, rfl, rfl, by decide +kernel, rfl, by decide +kernel, by decide +kernel⟩
theorem nd_share : N_share.Nodup := sc_share.nd
theorem ok_share [md : Md] {P : Program} {w : World} {K : PySem.W.Frag} {mg : Str → Option Value} {base : Heap} {cl : Cl} {fa : Addr} {fd : FuncData} (B : Bl mg) (hK : cl.K = K) (F : Fun K "share" "share" st_share fa fd) (gm : mg "share" = some (.ref fa)) (bn : Binds K fd ["trains", "size"] [])  : Fi P w K mg base cl "share" 1 [false, false] .val f_share := by
  refine def_ok (ls := [.val, .val]) (m := m_share) (ks' := []) F sc_share gm bn rfl rfl rfl (.inl rfl) (fun cdv A outer s H E h0 s0 b0 hr => ?_)
  exact (sb_cons (ss_ret (sf_Sum B (sa_b (SE.toBor (se_comp [("own", 2), ("offset", 3)] rfl nd_share (si_it (sq_bor (se_varB (i := 0) (hq := nq_trains)))) (blkOk_by (N := N_share) (sc := defScope st_share) (own := [("own", 2), ("offset", 3)]) (by decide +kernel)) (by decide) (by decide) (fun _ _ _ _ _ => sg_tup rfl (sgs_cons nd_share (sgs_cons nd_share sgs_nil))) (fun _ _ _ _ _ => sp_nil) (fun _ _ _ _ _ => (sf_Min2 B (sa_b (se_varB (i := 1) (hq := nq_size)) (sa_b ((se_var (i := 2) (hq := nq_own))).valBor sa_nil)))))) sa_nil)))
  sb_nil)
abbrev st_mark : Stmt := topS 11
abbrev N_mark : List Str := ["trains", "size", "place"]
theorem sc_mark : FnScope N_mark ["trains", "size", "place"] (defScope st_mark) := ⟨rfl, rfl, rfl, by decide +kernel, rfl, by decide +kernel, by decide +kernel⟩
theorem nd_mark : N_mark.Nodup := sc_mark.nd
theorem ok_mark [md : Md] {P : Program} {w : World} {K : PySem.W.Frag} {mg : Str → Option Value} {base : Heap} {cl : Cl} {fa : Addr} {fd : FuncData} (B : Bl mg) (hK : cl.K = K) (F : Fun K "mark" "mark" st_mark fa fd) (gm : mg "mark" = some (.ref fa)) (bn : Binds K fd ["trains", "size", "place"] []) (F_share : Fi P w K mg base cl "share" 1 [false, false] .val f_share) : Fi P w K mg base cl "mark" 2 [false, false, false] .val f_mark := by
  refine def_ok (ls := []) (m := m_mark) (ks' := []) F sc_mark gm bn rfl rfl rfl (.inl rfl) (fun cdv A outer s H E h0 s0 b0 hr => ?_)
  exact (sb_cons (ss_ret (se_sub (se_varB (i := 2) (hq := nq_place)) ((se_mul (se_int).valBor ((se_call F_share (hr.mono (by decide)) (sa_b (se_varB (i := 0) (hq := nq_trains)) (sa_b (se_varB (i := 1) (hq := nq_size)) sa_nil)) nq_share)).valBor)).toBor))
  sb_nil)
abbrev st_longest_ripe : Stmt := topS 12
abbrev N_longest_ripe : List Str := ["found", "place", "best", "size", "offset"]
theorem sc_longest_ripe : FnScope N_longest_ripe ["found", "place"] (defScope st_longest_ripe) := ⟨rfl, rfl, rfl, by decide +kernel, rfl, by decide +kernel, by decide +kernel⟩
theorem nd_longest_ripe : N_longest_ripe.Nodup := sc_longest_ripe.nd
theorem ok_longest_ripe [md : Md] {P : Program} {w : World} {K : PySem.W.Frag} {mg : Str → Option Value} {base : Heap} {cl : Cl} {fa : Addr} {fd : FuncData} (B : Bl mg) (hK : cl.K = K) (F : Fun K "longest_ripe" "longest_ripe" st_longest_ripe fa fd) (gm : mg "longest_ripe" = some (.ref fa)) (bn : Binds K fd ["found", "place"] []) (F_mark : Fi P w K mg base cl "mark" 2 [false, false, false] .val f_mark) : Fi P w K mg base cl "longest_ripe" 3 [false, false] .val f_longest_ripe := by
  refine def_ok (ls := [.val, .val, .val]) (m := m_longest_ripe) (ks' := []) F sc_longest_ripe gm bn rfl rfl rfl (.inl rfl) (fun cdv A outer s H E h0 s0 b0 hr => ?_)
  exact (sb_cons (ss_set (i := 2) nd_longest_ripe se_int)
  (sb_cons (ss_for (passes_of rfl) rfl (si_it (sq_par (i := 0) (hq := nq_found))) (sg_tup rfl (sgs_cons nd_longest_ripe (sgs_cons nd_longest_ripe sgs_nil))) (fun s => (sb_cons (ss_if (st_of (sw_and (st_cmp op_gt opv_gt nox_gt ((se_var (i := 3) (hq := nq_size))).valBor ((se_var (i := 2) (hq := nq_best))).valBor) (sw_and1 (st_cmp (op_eqD hr.units) opv_eq nox_eq ((se_var (i := 4) (hq := nq_offset))).valBor ((se_call F_mark (hr.mono (by decide)) (sa_b (se_varB (i := 0) (hq := nq_found)) (sa_b ((se_var (i := 3) (hq := nq_size))).valBor (sa_b (se_varB (i := 1) (hq := nq_place)) sa_nil))) nq_mark)).valBor))))
  (sb_cons (ss_set (i := 2) nd_longest_ripe (se_var (i := 3) (hq := nq_size)))
  sb_nil)
  sb_nil)
  sb_nil)) (by first | decide | simp [Tg.is]))
  (sb_cons (ss_ret (se_var (i := 2) (hq := nq_best)))
  sb_nil)))
abbrev st_grown : Stmt := topS 13
abbrev N_grown : List Str := ["found", "place", "size", "fresh", "many"]
theorem sc_grown : FnScope N_grown ["found", "place"] (defScope st_grown) := ⟨rfl, rfl, rfl, by decide +kernel, rfl, by decide +kernel, by decide +kernel⟩
theorem nd_grown : N_grown.Nodup := sc_grown.nd
theorem ok_grown [md : Md] {P : Program} {w : World} {K : PySem.W.Frag} {mg : Str → Option Value} {base : Heap} {cl : Cl} {fa : Addr} {fd : FuncData} (B : Bl mg) (hK : cl.K = K) (F : Fun K "grown" "grown" st_grown fa fd) (gm : mg "grown" = some (.ref fa)) (bn : Binds K fd ["found", "place"] []) (F_longest_ripe : Fi P w K mg base cl "longest_ripe" 3 [false, false] .val f_longest_ripe) (F_mark : Fi P w K mg base cl "mark" 2 [false, false, false] .val f_mark) (F_share : Fi P w K mg base cl "share" 1 [false, false] .val f_share) : Fi P w K mg base cl "grown" 4 [false, false] (.own none) f_grown := by
  refine def_ok (ls := [.val, .own none, .val]) (m := m_grown) (ks' := []) F sc_grown gm bn rfl rfl rfl (.inr rfl) (fun cdv A outer s H E h0 s0 b0 hr => ?_)
  exact (sb_cons (ss_set (i := 2) nd_grown (se_call F_longest_ripe (hr.mono (by decide)) (sa_b (se_varB (i := 0) (hq := nq_found)) (sa_b ((se_sub (se_varB (i := 1) (hq := nq_place)) (se_int).valBor)).valBor sa_nil)) nq_longest_ripe))
  (sb_cons (ss_set (i := 3) nd_grown (sf_List B (sa_b (se_varB (i := 0) (hq := nq_found)) sa_nil)))
  (sb_cons (ss_if (st_cmp op_gt opv_gt nox_gt ((se_var (i := 2) (hq := nq_size))).valBor (se_int).valBor)
  (sb_cons (ss_remove hr.units65 (i := 3) (hq := nq_fresh) (se_tup (n := 2) (sa_v (se_var (i := 2) (hq := nq_size)) (sa_v (se_call F_mark (hr.mono (by decide)) (sa_b (se_varB (i := 0) (hq := nq_found)) (sa_b ((se_var (i := 2) (hq := nq_size))).valBor (sa_b ((se_sub (se_varB (i := 1) (hq := nq_place)) (se_int).valBor)).valBor sa_nil))) nq_mark) sa_nil))))
  sb_nil)
  sb_nil)
  (sb_cons (ss_set (i := 4) nd_grown ((se_add ((se_add ((se_call F_share (hr.mono (by decide)) (sa_b (se_varB (i := 3) (hq := nq_fresh)) (sa_b ((se_add ((se_var (i := 2) (hq := nq_size))).valBor (se_int).valBor)).toBor sa_nil)) nq_share)).valBor ((se_var (i := 2) (hq := nq_size))).valBor)).toBor (se_int).valBor)).toVal)
  (sb_cons (ss_append (i := 3) (hq := nq_fresh) (se_tup (n := 2) (sa_v ((se_add ((se_var (i := 2) (hq := nq_size))).valBor (se_int).valBor)).toVal (sa_v (se_sub (se_varB (i := 1) (hq := nq_place)) ((se_mul (se_int).valBor ((se_var (i := 4) (hq := nq_many))).valBor)).toBor) sa_nil))))
  (sb_cons (ss_retV (i := 3) (hq := nq_fresh))
  sb_nil))))))
abbrev st_list_of : Stmt := topS 14
abbrev N_list_of : List Str := ["row", "found", "place"]
theorem sc_list_of : FnScope N_list_of ["row"] (defScope st_list_of) := ⟨rfl, rfl, rfl, by decide +kernel, rfl, by decide +kernel, by decide +kernel⟩
theorem nd_list_of : N_list_of.Nodup := sc_list_of.nd
theorem ok_list_of [md : Md] {P : Program} {w : World} {K : PySem.W.Frag} {mg : Str → Option Value} {base : Heap} {cl : Cl} {fa : Addr} {fd : FuncData} (B : Bl mg) (hK : cl.K = K) (F : Fun K "list_of" "list_of" st_list_of fa fd) (gm : mg "list_of" = some (.ref fa)) (bn : Binds K fd ["row"] []) (F_grown : Fi P w K mg base cl "grown" 4 [false, false] (.own none) f_grown) : Fi P w K mg base cl "list_of" 5 [false] (.own none) f_list_of := by
  refine def_ok (ls := [.val, .val]) (m := m_list_of) (ks' := []) F sc_list_of gm bn rfl rfl rfl (.inr rfl) (fun cdv A outer s H E h0 s0 b0 hr => ?_)
  exact (sb_cons (ss_set (i := 1) nd_list_of ((se_lst (n := 0) sa_nil)).toVal)
  (sb_cons (ss_for (passes_of rfl) rfl (si_it (sq_par (i := 0) (hq := nq_row))) (sg_name nd_list_of) (fun s => (sb_cons (ss_set (i := 1) nd_list_of ((se_call F_grown (hr.mono (by decide)) (sa_b ((se_var (i := 1) (hq := nq_found))).valBor (sa_b ((se_var (i := 2) (hq := nq_place))).valBor sa_nil)) nq_grown)).toVal)
  sb_nil)) (by first | decide | simp [Tg.is]))
  (sb_cons (ss_ret (sf_Sorted B (sa_b ((se_var (i := 1) (hq := nq_found))).valBor sa_nil)))
  sb_nil)))
abbrev st_next_place : Stmt := topS 15
abbrev N_next_place : List Str := ["left", "size", "offset"]
theorem sc_next_place : FnScope N_next_place ["left"] (defScope st_next_place) := ⟨rfl, rfl, rfl, by decide +kernel, rfl, by decide +kernel, by decide +kernel⟩
theorem nd_next_place : N_next_place.Nodup := sc_next_place.nd
theorem ok_next_place [md : Md] {P : Program} {w : World} {K : PySem.W.Frag} {mg : Str → Option Value} {base : Heap} {cl : Cl} {fa : Addr} {fd : FuncData} (B : Bl mg) (hK : cl.K = K) (F : Fun K "next_place" "next_place" st_next_place fa fd) (gm : mg "next_place" = some (.ref fa)) (bn : Binds K fd ["left"] []) (F_share : Fi P w K mg base cl "share" 1 [false, false] .val f_share) : Fi P w K mg base cl "next_place" 2 [false] .val f_next_place := by
  refine def_ok (ls := [.val, .val]) (m := m_next_place) (ks' := []) F sc_next_place gm bn rfl rfl rfl (.inl rfl) (fun cdv A outer s H E h0 s0 b0 hr => ?_)
  exact (sb_cons (ss_ret (sf_Max1 B (sa_b (SE.toBor (se_comp [("size", 1), ("offset", 2)] rfl nd_next_place (si_it (sq_bor (se_varB (i := 0) (hq := nq_left)))) (blkOk_by (N := N_next_place) (sc := defScope st_next_place) (own := [("size", 1), ("offset", 2)]) (by decide +kernel)) (by decide) (by decide) (fun _ _ _ _ _ => sg_tup rfl (sgs_cons nd_next_place (sgs_cons nd_next_place sgs_nil))) (fun _ _ _ _ _ => sp_nil) (fun _ _ _ _ _ => ((se_add ((se_var (i := 2) (hq := nq_offset))).valBor ((se_mul (se_int).valBor ((se_call F_share (hr.mono (by decide)) (sa_b (se_varB (i := 0) (hq := nq_left)) (sa_b ((se_var (i := 1) (hq := nq_size))).valBor sa_nil)) nq_share)).valBor)).toBor)).toVal))) sa_nil)))
  sb_nil)
abbrev st_shortest_ripe : Stmt := topS 16
abbrev N_shortest_ripe : List Str := ["left", "place", "size", "offset"]
theorem sc_shortest_ripe : FnScope N_shortest_ripe ["left", "place"] (defScope st_shortest_ripe) := ⟨rfl, rfl, rfl, by decide +kernel, rfl, by decide +kernel, by decide +kernel⟩
theorem nd_shortest_ripe : N_shortest_ripe.Nodup := sc_shortest_ripe.nd
theorem ok_shortest_ripe [md : Md] {P : Program} {w : World} {K : PySem.W.Frag} {mg : Str → Option Value} {base : Heap} {cl : Cl} {fa : Addr} {fd : FuncData} (B : Bl mg) (hK : cl.K = K) (F : Fun K "shortest_ripe" "shortest_ripe" st_shortest_ripe fa fd) (gm : mg "shortest_ripe" = some (.ref fa)) (bn : Binds K fd ["left", "place"] []) (F_mark : Fi P w K mg base cl "mark" 2 [false, false, false] .val f_mark) : Fi P w K mg base cl "shortest_ripe" 3 [false, false] .val f_shortest_ripe := by
  refine def_ok (ls := [.val, .val]) (m := m_shortest_ripe) (ks' := []) F sc_shortest_ripe gm bn rfl rfl rfl (.inl rfl) (fun cdv A outer s H E h0 s0 b0 hr => ?_)
  exact (sb_cons (ss_ret (sf_Min1 B (sa_b (SE.toBor (se_comp [("size", 2), ("offset", 3)] rfl nd_shortest_ripe (si_it (sq_bor (se_varB (i := 0) (hq := nq_left)))) (blkOk_by (N := N_shortest_ripe) (sc := defScope st_shortest_ripe) (own := [("size", 2), ("offset", 3)]) (by decide +kernel)) (by decide) (by decide) (fun _ _ _ _ _ => sg_tup rfl (sgs_cons nd_shortest_ripe (sgs_cons nd_shortest_ripe sgs_nil))) (fun _ _ _ _ _ => (sp_one (st_cmp (op_eqD hr.units) opv_eq nox_eq ((se_var (i := 3) (hq := nq_offset))).valBor ((se_call F_mark (hr.mono (by decide)) (sa_b (se_varB (i := 0) (hq := nq_left)) (sa_b ((se_var (i := 2) (hq := nq_size))).valBor (sa_b (se_varB (i := 1) (hq := nq_place)) sa_nil))) nq_mark)).valBor))) (fun _ _ _ _ _ => (se_var (i := 2) (hq := nq_size))))) sa_nil)))
  sb_nil)
abbrev st_shrunk : Stmt := topS 17
abbrev N_shrunk : List Str := ["left", "place", "size", "fresh", "many"]
theorem sc_shrunk : FnScope N_shrunk ["left", "place"] (defScope st_shrunk) := ⟨rfl, rfl, rfl, by decide +kernel, rfl, by decide +kernel, by decide +kernel⟩
theorem nd_shrunk : N_shrunk.Nodup := sc_shrunk.nd
theorem ok_shrunk [md : Md] {P : Program} {w : World} {K : PySem.W.Frag} {mg : Str → Option Value} {base : Heap} {cl : Cl} {fa : Addr} {fd : FuncData} (B : Bl mg) (hK : cl.K = K) (F : Fun K "shrunk" "shrunk" st_shrunk fa fd) (gm : mg "shrunk" = some (.ref fa)) (bn : Binds K fd ["left", "place"] []) (F_shortest_ripe : Fi P w K mg base cl "shortest_ripe" 3 [false, false] .val f_shortest_ripe) (F_mark : Fi P w K mg base cl "mark" 2 [false, false, false] .val f_mark) (F_share : Fi P w K mg base cl "share" 1 [false, false] .val f_share) : Fi P w K mg base cl "shrunk" 4 [false, false] (.own none) f_shrunk := by
  refine def_ok (ls := [.val, .own none, .val]) (m := m_shrunk) (ks' := []) F sc_shrunk gm bn rfl rfl rfl (.inr rfl) (fun cdv A outer s H E h0 s0 b0 hr => ?_)
  exact (sb_cons (ss_set (i := 2) nd_shrunk (se_call F_shortest_ripe (hr.mono (by decide)) (sa_b (se_varB (i := 0) (hq := nq_left)) (sa_b (se_varB (i := 1) (hq := nq_place)) sa_nil)) nq_shortest_ripe))
  (sb_cons (ss_set (i := 3) nd_shrunk (sf_List B (sa_b (se_varB (i := 0) (hq := nq_left)) sa_nil)))
  (sb_cons (ss_remove hr.units65 (i := 3) (hq := nq_fresh) (se_tup (n := 2) (sa_v (se_var (i := 2) (hq := nq_size)) (sa_v (se_call F_mark (hr.mono (by decide)) (sa_b (se_varB (i := 0) (hq := nq_left)) (sa_b ((se_var (i := 2) (hq := nq_size))).valBor (sa_b (se_varB (i := 1) (hq := nq_place)) sa_nil))) nq_mark) sa_nil))))
  (sb_cons (ss_if (st_cmp op_gt opv_gt nox_gt ((se_var (i := 2) (hq := nq_size))).valBor (se_int).valBor)
  (sb_cons (ss_set (i := 4) nd_shrunk (se_sub ((se_add ((se_call F_share (hr.mono (by decide)) (sa_b (se_varB (i := 3) (hq := nq_fresh)) (sa_b ((se_sub ((se_var (i := 2) (hq := nq_size))).valBor (se_int).valBor)).valBor sa_nil)) nq_share)).valBor ((se_var (i := 2) (hq := nq_size))).valBor)).toBor (se_int).valBor))
  (sb_cons (ss_append (i := 3) (hq := nq_fresh) (se_tup (n := 2) (sa_v (se_sub ((se_var (i := 2) (hq := nq_size))).valBor (se_int).valBor) (sa_v (se_sub ((se_sub (se_varB (i := 1) (hq := nq_place)) (se_int).valBor)).valBor ((se_mul (se_int).valBor ((se_var (i := 4) (hq := nq_many))).valBor)).toBor) sa_nil))))
  sb_nil))
  sb_nil)
  (sb_cons (ss_retV (i := 3) (hq := nq_fresh))
  sb_nil)))))
abbrev st_stones_of : Stmt := topS 18
abbrev N_stones_of : List Str := ["left", "found", "place"]
theorem sc_stones_of : FnScope N_stones_of ["left"] (defScope st_stones_of) := ⟨rfl, rfl, rfl, by decide +kernel, rfl, by decide +kernel, by decide +kernel⟩
theorem nd_stones_of : N_stones_of.Nodup := sc_stones_of.nd
theorem ok_stones_of [md : Md] {P : Program} {w : World} {K : PySem.W.Frag} {mg : Str → Option Value} {base : Heap} {cl : Cl} {fa : Addr} {fd : FuncData} (B : Bl mg) (hK : cl.K = K) (F : Fun K "stones_of" "stones_of" st_stones_of fa fd) (gm : mg "stones_of" = some (.ref fa)) (bn : Binds K fd ["left"] []) (F_next_place : Fi P w K mg base cl "next_place" 2 [false] .val f_next_place) (F_shrunk : Fi P w K mg base cl "shrunk" 4 [false, false] (.own none) f_shrunk) : Fi P w K mg base cl "stones_of" 5 [true] (.own none) f_stones_of := by
  refine def_ok (ls := [.own none, .val]) (m := m_stones_of) (ks' := []) F sc_stones_of gm bn rfl rfl rfl (.inr rfl) (fun cdv A outer s H E h0 s0 b0 hr => ?_)
  exact (sb_cons (ss_set (i := 1) nd_stones_of (se_lst (n := 0) sa_nil))
  (sb_cons (ss_while WB (passes_of rfl) (st_cmp (op_neD hr.units) opv_ne nox_ne ((se_var (i := 0) (hq := nq_left))).valBor ((se_lst (n := 0) sa_nil)).toBor)
  (sb_cons (ss_set (i := 2) nd_stones_of (se_call F_next_place (hr.mono (by decide)) (sa_b ((se_var (i := 0) (hq := nq_left))).valBor sa_nil) nq_next_place))
  (sb_cons (ss_append (i := 1) (hq := nq_found) (se_var (i := 2) (hq := nq_place)))
  (sb_cons (ss_set (i := 0) nd_stones_of ((se_call F_shrunk (hr.mono (by decide)) (sa_b ((se_var (i := 0) (hq := nq_left))).valBor (sa_b ((se_var (i := 2) (hq := nq_place))).valBor sa_nil)) nq_shrunk)).toVal)
  sb_nil))))
  (sb_cons (ss_ret (se_revL (se_varB (i := 1) (hq := nq_found))))
  sb_nil)))
abbrev st_look_niches : Stmt := topS 21
abbrev N_look_niches : List Str := ["niches"]
theorem sc_look_niches : FnScope N_look_niches ["niches"] (defScope st_look_niches) := ⟨rfl, rfl, rfl, by decide +kernel, rfl, by decide +kernel, by decide +kernel⟩
theorem nd_look_niches : N_look_niches.Nodup := sc_look_niches.nd
theorem ok_look_niches [md : Md] {P : Program} {w : World} {K : PySem.W.Frag} {mg : Str → Option Value} {base : Heap} {cl : Cl} {fa : Addr} {fd : FuncData} (B : Bl mg) (hK : cl.K = K) (F : Fun K "look_niches" "look_niches" st_look_niches fa fd) (gm : mg "look_niches" = some (.ref fa)) (bn : Binds K fd ["niches"] []) {t_MOST_NICHES : Tok} (C_MOST_NICHES : mg "MOST_NICHES" = some (.int 200 t_MOST_NICHES)) (X_BadNumber : XPlain K mg cl "BadNumber") : Fi P w K mg base cl "look_niches" 1 [false] .val f_look_niches := by
  refine def_ok (ls := []) (m := m_look_niches) (ks' := [.bor]) F sc_look_niches gm bn rfl rfl rfl (.inl rfl) (fun cdv A outer s H E h0 s0 b0 hr => ?_)
  exact (sb_cons (ss_if (st_of (sw_or (st_cmp op_lt opv_lt nox_lt (se_varB (i := 0) (hq := nq_niches)) (se_int).valBor) (sw_or1 (st_cmp op_gt opv_gt nox_gt (se_varB (i := 0) (hq := nq_niches)) ((se_globI C_MOST_NICHES nq_MOST_NICHES)).valBor))))
  (sb_cons (ss_raise rfl X_BadNumber nq_BadNumber)
  sb_nil)
  sb_nil)
  sb_nil)
abbrev st_look_sizes : Stmt := topS 22
abbrev N_look_sizes : List Str := ["sizes", "at"]
theorem sc_look_sizes : FnScope N_look_sizes ["sizes"] (defScope st_look_sizes) := ⟨rfl, rfl, rfl, by decide +kernel, rfl, by decide +kernel, by decide +kernel⟩
theorem nd_look_sizes : N_look_sizes.Nodup := sc_look_sizes.nd
theorem ok_look_sizes [md : Md] {P : Program} {w : World} {K : PySem.W.Frag} {mg : Str → Option Value} {base : Heap} {cl : Cl} {fa : Addr} {fd : FuncData} (B : Bl mg) (hK : cl.K = K) (F : Fun K "look_sizes" "look_sizes" st_look_sizes fa fd) (gm : mg "look_sizes" = some (.ref fa)) (bn : Binds K fd ["sizes"] []) {t_MOST_STONES : Tok} (C_MOST_STONES : mg "MOST_STONES" = some (.int 60 t_MOST_STONES)) (X_BadSizes : XAt P w K mg base cl "BadSizes" 1) (X_TooMany : XPlain K mg cl "TooMany") : Fi P w K mg base cl "look_sizes" 3 [false] .val f_look_sizes := by
  refine def_ok (ls := [.val]) (m := m_look_sizes) (ks' := [.bor, .val]) F sc_look_sizes gm bn rfl rfl rfl (.inl rfl) (fun cdv A outer s H E h0 s0 b0 hr => ?_)
  exact (sb_cons (ss_for (passes_of rfl) rfl (si_range1 B.range ((sf_Len B (sa_b (se_varB (i := 0) (hq := nq_sizes)) sa_nil))).valBor) (sg_name nd_look_sizes) (fun s => (sb_cons (ss_if (st_cmp op_lt opv_lt nox_lt ((se_ix (se_varB (i := 0) (hq := nq_sizes)) ((se_var (i := 1) (hq := nq_at))).valBor)).valBor (se_int).valBor)
  (sb_cons (ss_raiseAt rfl X_BadSizes (hr.mono (by decide)) (se_var (i := 1) (hq := nq_at)) nq_BadSizes)
  sb_nil)
  sb_nil)
  sb_nil)) (by first | decide | simp [Tg.is]))
  (sb_cons (ss_if (st_cmp op_gt opv_gt nox_gt ((sf_Sum B (sa_b (se_varB (i := 0) (hq := nq_sizes)) sa_nil))).valBor ((se_globI C_MOST_STONES nq_MOST_STONES)).valBor)
  (sb_cons (ss_raise rfl X_TooMany nq_TooMany)
  sb_nil)
  sb_nil)
  sb_nil))
abbrev st_room : Stmt := topS 23
abbrev N_room : List Str := ["niches", "sizes", "size", "own"]
theorem sc_room : FnScope N_room ["niches", "sizes", "size"] (defScope st_room) := ⟨rfl, rfl, rfl, by decide +kernel, rfl, by decide +kernel, by decide +kernel⟩
theorem nd_room : N_room.Nodup := sc_room.nd
theorem ok_room [md : Md] {P : Program} {w : World} {K : PySem.W.Frag} {mg : Str → Option Value} {base : Heap} {cl : Cl} {fa : Addr} {fd : FuncData} (B : Bl mg) (hK : cl.K = K) (F : Fun K "room" "room" st_room fa fd) (gm : mg "room" = some (.ref fa)) (bn : Binds K fd ["niches", "sizes", "size"] [])  : Fi P w K mg base cl "room" 1 [false, false, false] .val f_room := by
  refine def_ok (ls := [.val]) (m := m_room) (ks' := []) F sc_room gm bn rfl rfl rfl (.inl rfl) (fun cdv A outer s H E h0 s0 b0 hr => ?_)
  exact (sb_cons (ss_ret (se_sub (se_varB (i := 0) (hq := nq_niches)) ((se_mul (se_int).valBor ((sf_Sum B (sa_b (SE.toBor (se_comp [("own", 3)] rfl nd_room (si_it (sq_bor (se_varB (i := 1) (hq := nq_sizes)))) (blkOk_by (N := N_room) (sc := defScope st_room) (own := [("own", 3)]) (by decide +kernel)) (by decide) (by decide) (fun _ _ _ _ _ => sg_name nd_room) (fun _ _ _ _ _ => sp_nil) (fun _ _ _ _ _ => (sf_Min2 B (sa_b (se_varB (i := 2) (hq := nq_size)) (sa_b ((se_var (i := 3) (hq := nq_own))).valBor sa_nil)))))) sa_nil))).valBor)).toBor))
  sb_nil)
abbrev st_chosen : Stmt := topS 24
abbrev N_chosen : List Str := ["many", "things", "found", "step"]
theorem sc_chosen : FnScope N_chosen ["many", "things"] (defScope st_chosen) := ⟨rfl, rfl, rfl, by decide +kernel, rfl, by decide +kernel, by decide +kernel⟩
theorem nd_chosen : N_chosen.Nodup := sc_chosen.nd
theorem ok_chosen [md : Md] {P : Program} {w : World} {K : PySem.W.Frag} {mg : Str → Option Value} {base : Heap} {cl : Cl} {fa : Addr} {fd : FuncData} (B : Bl mg) (hK : cl.K = K) (F : Fun K "chosen" "chosen" st_chosen fa fd) (gm : mg "chosen" = some (.ref fa)) (bn : Binds K fd ["many", "things"] [])  : Fi P w K mg base cl "chosen" 1 [false, false] .val f_chosen := by
  refine def_ok (ls := [.val, .val]) (m := m_chosen) (ks' := []) F sc_chosen gm bn rfl rfl rfl (.inl rfl) (fun cdv A outer s H E h0 s0 b0 hr => ?_)
  exact (sb_cons (ss_if (st_cmp op_lt opv_lt nox_lt (se_varB (i := 1) (hq := nq_things)) (se_int).valBor)
  (sb_cons (ss_ret (sf_Int B (sa_b ((se_cmp (op_eqD hr.units) opv_eq nox_eq (se_varB (i := 0) (hq := nq_many)) (se_int).valBor)).valBor sa_nil)))
  sb_nil)
  sb_nil)
  (sb_cons (ss_set (i := 2) nd_chosen se_int)
  (sb_cons (ss_for (passes_of rfl) rfl (si_range2 B.range (se_int).valBor ((se_add (se_varB (i := 0) (hq := nq_many)) (se_int).valBor)).toBor) (sg_name nd_chosen) (fun s => (sb_cons (ss_set (i := 2) nd_chosen (se_fdiv ((se_mul ((se_var (i := 2) (hq := nq_found))).valBor ((se_sub ((se_add (se_varB (i := 1) (hq := nq_things)) ((se_var (i := 3) (hq := nq_step))).valBor)).toBor (se_int).valBor)).valBor)).toBor ((se_var (i := 3) (hq := nq_step))).valBor))
  sb_nil)) (by first | decide | simp [Tg.is]))
  (sb_cons (ss_ret (se_var (i := 2) (hq := nq_found)))
  sb_nil))))
abbrev st_groups : Stmt := topS 25
abbrev N_groups : List Str := ["niches", "sizes", "rising", "size"]
theorem sc_groups : FnScope N_groups ["niches", "sizes"] (defScope st_groups) := ⟨rfl, rfl, rfl, by decide +kernel, rfl, by decide +kernel, by decide +kernel⟩
theorem nd_groups : N_groups.Nodup := sc_groups.nd
theorem ok_groups [md : Md] {P : Program} {w : World} {K : PySem.W.Frag} {mg : Str → Option Value} {base : Heap} {cl : Cl} {fa : Addr} {fd : FuncData} (B : Bl mg) (hK : cl.K = K) (F : Fun K "groups" "groups" st_groups fa fd) (gm : mg "groups" = some (.ref fa)) (bn : Binds K fd ["niches", "sizes"] []) (F_room : Fi P w K mg base cl "room" 1 [false, false, false] .val f_room) : Fi P w K mg base cl "groups" 2 [false, false] (.own none) f_groups := by
  refine def_ok (ls := [.val, .val]) (m := m_groups) (ks' := []) F sc_groups gm bn rfl rfl rfl (.inr rfl) (fun cdv A outer s H E h0 s0 b0 hr => ?_)
  exact (sb_cons (ss_set (i := 2) nd_groups ((sf_Sorted B (sa_b (se_varB (i := 1) (hq := nq_sizes)) sa_nil))).toVal)
  (sb_cons (ss_ret (se_comp [("size", 3)] rfl nd_groups (si_it (sq_val ((se_sortedSet B (se_varB (i := 1) (hq := nq_sizes)))).toVal)) (blkOk_by (N := N_groups) (sc := defScope st_groups) (own := [("size", 3)]) (by decide +kernel)) (by decide) (by decide) (fun _ _ _ _ _ => sg_name nd_groups) (fun _ _ _ _ _ => sp_nil) (fun _ _ _ _ _ => (se_tup (n := 3) (sa_v (se_var (i := 3) (hq := nq_size)) (sa_v (se_cnt ((se_var (i := 2) (hq := nq_rising))).valBor ((se_var (i := 3) (hq := nq_size))).valBor) (sa_v (se_call F_room (hr.mono (by decide)) (sa_b (se_varB (i := 0) (hq := nq_niches)) (sa_b (se_varB (i := 1) (hq := nq_sizes)) (sa_b ((se_var (i := 3) (hq := nq_size))).valBor sa_nil))) nq_room) sa_nil)))))))
  sb_nil))
abbrev st_product : Stmt := topS 26
abbrev N_product : List Str := ["found", "many", "size", "trains_of", "most"]
theorem sc_product : FnScope N_product ["found"] (defScope st_product) := ⟨rfl, rfl, rfl, by decide +kernel, rfl, by decide +kernel, by decide +kernel⟩
theorem nd_product : N_product.Nodup := sc_product.nd
theorem ok_product [md : Md] {P : Program} {w : World} {K : PySem.W.Frag} {mg : Str → Option Value} {base : Heap} {cl : Cl} {fa : Addr} {fd : FuncData} (B : Bl mg) (hK : cl.K = K) (F : Fun K "product" "product" st_product fa fd) (gm : mg "product" = some (.ref fa)) (bn : Binds K fd ["found"] []) (F_chosen : Fi P w K mg base cl "chosen" 1 [false, false] .val f_chosen) : Fi P w K mg base cl "product" 2 [false] .val f_product := by
  refine def_ok (ls := [.val, .val, .val, .val]) (m := m_product) (ks' := []) F sc_product gm bn rfl rfl rfl (.inl rfl) (fun cdv A outer s H E h0 s0 b0 hr => ?_)
  exact (sb_cons (ss_set (i := 1) nd_product se_int)
  (sb_cons (ss_for (passes_of rfl) rfl (si_it (sq_par (i := 0) (hq := nq_found))) (sg_tup rfl (sgs_cons nd_product (sgs_cons nd_product (sgs_cons nd_product sgs_nil)))) (fun s => (sb_cons (ss_set (i := 1) nd_product ((se_mul ((se_var (i := 1) (hq := nq_many))).valBor ((se_call F_chosen (hr.mono (by decide)) (sa_b ((se_var (i := 3) (hq := nq_trains_of))).valBor (sa_b ((se_add ((se_var (i := 4) (hq := nq_most))).valBor (se_int).valBor)).toBor sa_nil)) nq_chosen)).valBor)).toVal)
  sb_nil)) (by first | decide | simp [Tg.is]))
  (sb_cons (ss_ret (se_var (i := 1) (hq := nq_many)))
  sb_nil)))
abbrev st_offsets_numbered : Stmt := topS 27
abbrev N_offsets_numbered : List Str := ["many", "most", "number", "found", "low", "rest", "ways"]
theorem sc_offsets_numbered : FnScope N_offsets_numbered ["many", "most", "number"] (defScope st_offsets_numbered) := ⟨rfl, rfl, rfl, by decide +kernel, rfl, by decide +kernel, by decide +kernel⟩
theorem nd_offsets_numbered : N_offsets_numbered.Nodup := sc_offsets_numbered.nd
theorem ok_offsets_numbered [md : Md] {P : Program} {w : World} {K : PySem.W.Frag} {mg : Str → Option Value} {base : Heap} {cl : Cl} {fa : Addr} {fd : FuncData} (B : Bl mg) (hK : cl.K = K) (F : Fun K "offsets_numbered" "offsets_numbered" st_offsets_numbered fa fd) (gm : mg "offsets_numbered" = some (.ref fa)) (bn : Binds K fd ["many", "most", "number"] []) (F_chosen : Fi P w K mg base cl "chosen" 1 [false, false] .val f_chosen) : Fi P w K mg base cl "offsets_numbered" 2 [false, false, true] (.own none) f_offsets_numbered := by
  refine def_ok (ls := [.own none, .val, .val, .val]) (m := m_offsets_numbered) (ks' := []) F sc_offsets_numbered gm bn rfl rfl rfl (.inr rfl) (fun cdv A outer s H E h0 s0 b0 hr => ?_)
  exact (sb_cons (ss_set (i := 3) nd_offsets_numbered (se_lst (n := 0) sa_nil))
  (sb_cons (ss_set (i := 4) nd_offsets_numbered se_int)
  (sb_cons (ss_while WB (passes_of rfl) (st_cmp op_lt opv_lt nox_lt ((sf_Len B (sa_b (se_varB (i := 3) (hq := nq_found)) sa_nil))).valBor (se_varB (i := 0) (hq := nq_many)))
  (sb_cons (ss_set (i := 5) nd_offsets_numbered (se_sub ((se_sub (se_varB (i := 0) (hq := nq_many)) ((sf_Len B (sa_b (se_varB (i := 3) (hq := nq_found)) sa_nil))).valBor)).valBor (se_int).valBor))
  (sb_cons (ss_set (i := 6) nd_offsets_numbered (se_call F_chosen (hr.mono (by decide)) (sa_b ((se_var (i := 5) (hq := nq_rest))).valBor (sa_b ((se_add ((se_sub (se_varB (i := 1) (hq := nq_most)) ((se_var (i := 4) (hq := nq_low))).valBor)).valBor (se_int).valBor)).toBor sa_nil)) nq_chosen))
  (sb_cons (ss_if (st_cmp op_lt opv_lt nox_lt ((se_var (i := 2) (hq := nq_number))).valBor ((se_var (i := 6) (hq := nq_ways))).valBor)
  (sb_cons (ss_append (i := 3) (hq := nq_found) (se_var (i := 4) (hq := nq_low)))
  sb_nil)
  (sb_cons (ss_isub (i := 2) nd_offsets_numbered ((se_var (i := 6) (hq := nq_ways))).valBor)
  (sb_cons (ss_iadd (i := 4) nd_offsets_numbered (se_int).valBor)
  sb_nil)))
  sb_nil))))
  (sb_cons (ss_retV (i := 3) (hq := nq_found))
  sb_nil))))
abbrev st_row_numbered : Stmt := topS 28
abbrev N_row_numbered : List Str := ["niches", "sizes", "number", "left", "made", "size", "many", "most", "by", "offset"]
theorem sc_row_numbered : FnScope N_row_numbered ["niches", "sizes", "number"] (defScope st_row_numbered) := ⟨rfl, rfl, rfl, by decide +kernel, rfl, by decide +kernel, by decide +kernel⟩
theorem nd_row_numbered : N_row_numbered.Nodup := sc_row_numbered.nd
theorem ok_row_numbered [md : Md] {P : Program} {w : World} {K : PySem.W.Frag} {mg : Str → Option Value} {base : Heap} {cl : Cl} {fa : Addr} {fd : FuncData} (B : Bl mg) (hK : cl.K = K) (F : Fun K "row_numbered" "row_numbered" st_row_numbered fa fd) (gm : mg "row_numbered" = some (.ref fa)) (bn : Binds K fd ["niches", "sizes", "number"] []) (X_BadNumber : XPlain K mg cl "BadNumber") (F_look_niches : Fi P w K mg base cl "look_niches" 1 [false] .val f_look_niches) (F_look_sizes : Fi P w K mg base cl "look_sizes" 3 [false] .val f_look_sizes) (F_groups : Fi P w K mg base cl "groups" 2 [false, false] (.own none) f_groups) (F_product : Fi P w K mg base cl "product" 2 [false] .val f_product) (F_offsets_numbered : Fi P w K mg base cl "offsets_numbered" 2 [false, false, true] (.own none) f_offsets_numbered) (F_stones_of : Fi P w K mg base cl "stones_of" 5 [true] (.own none) f_stones_of) : Fi P w K mg base cl "row_numbered" 6 [false, false, true] (.own none) f_row_numbered := by
  refine def_ok (ls := [.val, .own none, .val, .val, .val, .val, .val]) (m := m_row_numbered) (ks' := []) F sc_row_numbered gm bn rfl rfl rfl (.inr rfl) (fun cdv A outer s H E h0 s0 b0 hr => ?_)
  exact (sb_cons (ss_expr (se_call F_look_niches (hr.mono (by decide)) (sa_b (se_varB (i := 0) (hq := nq_niches)) sa_nil) nq_look_niches))
  (sb_cons (ss_expr (se_call F_look_sizes (hr.mono (by decide)) (sa_b (se_varB (i := 1) (hq := nq_sizes)) sa_nil) nq_look_sizes))
  (sb_cons (ss_set (i := 3) nd_row_numbered ((se_call F_groups (hr.mono (by decide)) (sa_b (se_varB (i := 0) (hq := nq_niches)) (sa_b (se_varB (i := 1) (hq := nq_sizes)) sa_nil)) nq_groups)).toVal)
  (sb_cons (ss_if (st_of (sw_or (st_cmp op_lt opv_lt nox_lt ((se_var (i := 2) (hq := nq_number))).valBor (se_int).valBor) (sw_or1 (st_cmp op_ge opv_ge nox_ge ((se_var (i := 2) (hq := nq_number))).valBor ((se_call F_product (hr.mono (by decide)) (sa_b ((se_var (i := 3) (hq := nq_left))).valBor sa_nil) nq_product)).valBor))))
  (sb_cons (ss_raise rfl X_BadNumber nq_BadNumber)
  sb_nil)
  sb_nil)
  (sb_cons (ss_set (i := 4) nd_row_numbered (se_lst (n := 0) sa_nil))
  (sb_cons (ss_while WB (passes_of rfl) (st_cmp (op_neD hr.units) opv_ne nox_ne ((se_var (i := 3) (hq := nq_left))).valBor ((se_lst (n := 0) sa_nil)).toBor)
  (sb_cons (ss_unpack (se_ix ((se_var (i := 3) (hq := nq_left))).valBor (se_int).valBor) (sg_tup rfl (sgs_cons nd_row_numbered (sgs_cons nd_row_numbered (sgs_cons nd_row_numbered sgs_nil)))) (by decide))
  (sb_cons (ss_set (i := 3) nd_row_numbered ((se_slL ((se_var (i := 3) (hq := nq_left))).valBor (so_some (se_int).valBor) so_none)).toVal)
  (sb_cons (ss_set (i := 8) nd_row_numbered (se_call F_product (hr.mono (by decide)) (sa_b ((se_var (i := 3) (hq := nq_left))).valBor sa_nil) nq_product))
  (sb_cons (ss_ext (i := 4) nd_row_numbered ((se_comp [("offset", 9)] rfl nd_row_numbered (si_it (sq_val ((se_call F_offsets_numbered (hr.mono (by decide)) (sa_b ((se_var (i := 6) (hq := nq_many))).valBor (sa_b ((se_var (i := 7) (hq := nq_most))).valBor (sa_v (se_fdiv ((se_var (i := 2) (hq := nq_number))).valBor ((se_var (i := 8) (hq := nq_by))).valBor) sa_nil))) nq_offsets_numbered)).toVal)) (blkOk_by (N := N_row_numbered) (sc := defScope st_row_numbered) (own := [("offset", 9)]) (by decide +kernel)) (by decide) (by decide) (fun _ _ _ _ _ => sg_name nd_row_numbered) (fun _ _ _ _ _ => sp_nil) (fun _ _ _ _ _ => (se_tup (n := 2) (sa_v (se_var (i := 5) (hq := nq_size)) (sa_v (se_var (i := 9) (hq := nq_offset)) sa_nil)))))).toVal)
  (sb_cons (ss_set (i := 2) nd_row_numbered (se_mod ((se_var (i := 2) (hq := nq_number))).valBor ((se_var (i := 8) (hq := nq_by))).valBor))
  sb_nil))))))
  (sb_frz (i := 4) (sb_cons (ss_ret (se_call F_stones_of (hr.mono (by decide)) (sa_v (se_var (i := 4) (hq := nq_made)) sa_nil) nq_stones_of))
  sb_nil))))))))
abbrev st_number_among : Stmt := topS 29
abbrev N_number_among : List Str := ["offsets", "most", "found", "low", "at", "rest"]
theorem sc_number_among : FnScope N_number_among ["offsets", "most"] (defScope st_number_among) := ⟨rfl, rfl, rfl, by decide +kernel, rfl, by decide +kernel, by decide +kernel⟩
theorem nd_number_among : N_number_among.Nodup := sc_number_among.nd
theorem ok_number_among [md : Md] {P : Program} {w : World} {K : PySem.W.Frag} {mg : Str → Option Value} {base : Heap} {cl : Cl} {fa : Addr} {fd : FuncData} (B : Bl mg) (hK : cl.K = K) (F : Fun K "number_among" "number_among" st_number_among fa fd) (gm : mg "number_among" = some (.ref fa)) (bn : Binds K fd ["offsets", "most"] []) (F_chosen : Fi P w K mg base cl "chosen" 1 [false, false] .val f_chosen) : Fi P w K mg base cl "number_among" 2 [false, false] .val f_number_among := by
  refine def_ok (ls := [.val, .val, .val, .val]) (m := m_number_among) (ks' := []) F sc_number_among gm bn rfl rfl rfl (.inl rfl) (fun cdv A outer s H E h0 s0 b0 hr => ?_)
  exact (sb_cons (ss_set (i := 2) nd_number_among se_int)
  (sb_cons (ss_set (i := 3) nd_number_among se_int)
  (sb_cons (ss_for (passes_of rfl) rfl (si_range1 B.range ((sf_Len B (sa_b (se_varB (i := 0) (hq := nq_offsets)) sa_nil))).valBor) (sg_name nd_number_among) (fun s => (sb_cons (ss_set (i := 5) nd_number_among (se_sub ((se_sub ((sf_Len B (sa_b (se_varB (i := 0) (hq := nq_offsets)) sa_nil))).valBor ((se_var (i := 4) (hq := nq_at))).valBor)).valBor (se_int).valBor))
  (sb_cons (ss_while WB (passes_of rfl) (st_cmp op_lt opv_lt nox_lt ((se_var (i := 3) (hq := nq_low))).valBor ((se_ix (se_varB (i := 0) (hq := nq_offsets)) ((se_var (i := 4) (hq := nq_at))).valBor)).valBor)
  (sb_cons (ss_iadd (i := 2) nd_number_among ((se_call F_chosen (hr.mono (by decide)) (sa_b ((se_var (i := 5) (hq := nq_rest))).valBor (sa_b ((se_add ((se_sub (se_varB (i := 1) (hq := nq_most)) ((se_var (i := 3) (hq := nq_low))).valBor)).valBor (se_int).valBor)).toBor sa_nil)) nq_chosen)).valBor)
  (sb_cons (ss_iadd (i := 3) nd_number_among (se_int).valBor)
  sb_nil)))
  sb_nil))) (by first | decide | simp [Tg.is]))
  (sb_cons (ss_ret (se_var (i := 2) (hq := nq_found)))
  sb_nil))))
abbrev st_is_sober : Stmt := topS 30
abbrev N_is_sober : List Str := ["niches", "row", "at"]
theorem sc_is_sober : FnScope N_is_sober ["niches", "row"] (defScope st_is_sober) := ⟨rfl, rfl, rfl, by decide +kernel, rfl, by decide +kernel, by decide +kernel⟩
theorem nd_is_sober : N_is_sober.Nodup := sc_is_sober.nd
theorem ok_is_sober [md : Md] {P : Program} {w : World} {K : PySem.W.Frag} {mg : Str → Option Value} {base : Heap} {cl : Cl} {fa : Addr} {fd : FuncData} (B : Bl mg) (hK : cl.K = K) (F : Fun K "is_sober" "is_sober" st_is_sober fa fd) (gm : mg "is_sober" = some (.ref fa)) (bn : Binds K fd ["niches", "row"] [])  : Fi P w K mg base cl "is_sober" 1 [false, false] .val f_is_sober := by
  refine def_ok (ls := [.val]) (m := m_is_sober) (ks' := []) F sc_is_sober gm bn rfl rfl rfl (.inl rfl) (fun cdv A outer s H E h0 s0 b0 hr => ?_)
  exact (sb_cons (ss_for (passes_of rfl) rfl (si_range1 B.range ((sf_Len B (sa_b (se_varB (i := 1) (hq := nq_row)) sa_nil))).valBor) (sg_name nd_is_sober) (fun s => (sb_cons (ss_if (st_of (sw_or (st_cmp op_lt opv_lt nox_lt ((se_ix (se_varB (i := 1) (hq := nq_row)) ((se_var (i := 2) (hq := nq_at))).valBor)).valBor ((se_add ((se_mul (se_int).valBor ((se_var (i := 2) (hq := nq_at))).valBor)).toBor (se_int).valBor)).toBor) (sw_or1 (st_cmp op_gt opv_gt nox_gt ((se_ix (se_varB (i := 1) (hq := nq_row)) ((se_var (i := 2) (hq := nq_at))).valBor)).valBor (se_varB (i := 0) (hq := nq_niches))))))
  (sb_cons (ss_ret se_bl)
  sb_nil)
  sb_nil)
  sb_nil)) (by first | decide | simp [Tg.is]))
  (sb_cons (ss_ret se_bl)
  sb_nil))
abbrev st_number_of : Stmt := topS 31
abbrev N_number_of : List Str := ["niches", "row", "found", "number", "size", "many", "most", "offset", "own", "other"]
theorem sc_number_of : FnScope N_number_of ["niches", "row"] (defScope st_number_of) := ⟨rfl, rfl, rfl, by decide +kernel, rfl, by decide +kernel, by decide +kernel⟩
theorem nd_number_of : N_number_of.Nodup := sc_number_of.nd
theorem ok_number_of [md : Md] {P : Program} {w : World} {K : PySem.W.Frag} {mg : Str → Option Value} {base : Heap} {cl : Cl} {fa : Addr} {fd : FuncData} (B : Bl mg) (hK : cl.K = K) (F : Fun K "number_of" "number_of" st_number_of fa fd) (gm : mg "number_of" = some (.ref fa)) (bn : Binds K fd ["niches", "row"] []) (X_BadNumber : XPlain K mg cl "BadNumber") (F_look_row : Fi P w K mg base cl "look_row" 3 [false] .val f_look_row) (F_look_niches : Fi P w K mg base cl "look_niches" 1 [false] .val f_look_niches) (F_is_sober : Fi P w K mg base cl "is_sober" 1 [false, false] .val f_is_sober) (F_list_of : Fi P w K mg base cl "list_of" 5 [false] (.own none) f_list_of) (F_groups : Fi P w K mg base cl "groups" 2 [false, false] (.own none) f_groups) (F_chosen : Fi P w K mg base cl "chosen" 1 [false, false] .val f_chosen) (F_number_among : Fi P w K mg base cl "number_among" 2 [false, false] .val f_number_among) : Fi P w K mg base cl "number_of" 6 [false, false] .val f_number_of := by
  refine def_ok (ls := [.val, .val, .val, .val, .val, .val, .val, .val]) (m := m_number_of) (ks' := []) F sc_number_of gm bn rfl rfl rfl (.inl rfl) (fun cdv A outer s H E h0 s0 b0 hr => ?_)
  exact (sb_cons (ss_expr (se_call F_look_row (hr.mono (by decide)) (sa_b (se_varB (i := 1) (hq := nq_row)) sa_nil) nq_look_row))
  (sb_cons (ss_expr (se_call F_look_niches (hr.mono (by decide)) (sa_b (se_varB (i := 0) (hq := nq_niches)) sa_nil) nq_look_niches))
  (sb_cons (ss_if (st_not (st_val ((se_call F_is_sober (hr.mono (by decide)) (sa_b (se_varB (i := 0) (hq := nq_niches)) (sa_b (se_varB (i := 1) (hq := nq_row)) sa_nil)) nq_is_sober)).valBor))
  (sb_cons (ss_raise rfl X_BadNumber nq_BadNumber)
  sb_nil)
  sb_nil)
  (sb_cons (ss_set (i := 2) nd_number_of ((se_call F_list_of (hr.mono (by decide)) (sa_b (se_varB (i := 1) (hq := nq_row)) sa_nil) nq_list_of)).toVal)
  (sb_cons (ss_set (i := 3) nd_number_of se_int)
  (sb_cons (ss_for (passes_of rfl) rfl (si_it (sq_val ((se_call F_groups (hr.mono (by decide)) (sa_b (se_varB (i := 0) (hq := nq_niches)) (sa_b (SE.toBor (se_comp [("size", 4), ("offset", 7)] rfl nd_number_of (si_it (sq_val (se_var (i := 2) (hq := nq_found)))) (blkOk_by (N := N_number_of) (sc := defScope st_number_of) (own := [("size", 4), ("offset", 7)]) (by decide +kernel)) (by decide) (by decide) (fun _ _ _ _ _ => sg_tup rfl (sgs_cons nd_number_of (sgs_cons nd_number_of sgs_nil))) (fun _ _ _ _ _ => sp_nil) (fun _ _ _ _ _ => (se_var (i := 4) (hq := nq_size))))) sa_nil)) nq_groups)).toVal)) (sg_tup rfl (sgs_cons nd_number_of (sgs_cons nd_number_of (sgs_cons nd_number_of sgs_nil)))) (fun s => (sb_cons (ss_frzB (i := 8) (ss_setLc (i := 8) [("other", 9), ("offset", 7)] rfl nd_number_of (si_it (sq_val (se_var (i := 2) (hq := nq_found)))) (blkOk_by (N := N_number_of) (sc := defScope st_number_of) (own := [("other", 9), ("offset", 7)]) (by decide +kernel)) (by decide) (by decide) (fun _ _ _ _ _ => sg_tup rfl (sgs_cons nd_number_of (sgs_cons nd_number_of sgs_nil))) (fun _ _ _ _ _ => (sp_one (st_cmp (op_eqD hr.units) opv_eq nox_eq ((se_var (i := 9) (hq := nq_other))).valBor ((se_var (i := 4) (hq := nq_size))).valBor))) (fun _ _ _ _ _ => (se_var (i := 7) (hq := nq_offset))) (sw_true rfl rfl rfl (by decide +kernel))))
  (sb_cons (ss_set (i := 3) nd_number_of ((se_add ((se_mul ((se_var (i := 3) (hq := nq_number))).valBor ((se_call F_chosen (hr.mono (by decide)) (sa_b ((se_var (i := 5) (hq := nq_many))).valBor (sa_b ((se_add ((se_var (i := 6) (hq := nq_most))).valBor (se_int).valBor)).toBor sa_nil)) nq_chosen)).valBor)).toBor ((se_call F_number_among (hr.mono (by decide)) (sa_b ((se_var (i := 8) (hq := nq_own))).valBor (sa_b ((se_var (i := 6) (hq := nq_most))).valBor sa_nil)) nq_number_among)).valBor)).toVal)
  sb_nil))) (by first | decide | simp [Tg.is]))
  (sb_cons (ss_ret (se_var (i := 3) (hq := nq_number)))
  sb_nil)))))))
abbrev st_numbers_L : Stmt := topS 33
abbrev N_numbers_L : List Str := ["_law_script", "_law_many", "_law_row", "_law_seed", "_law_cell", "_law_rest", "_law_k"]
theorem sc_numbers_L : FnScope N_numbers_L ["_law_script", "_law_many"] (defScope st_numbers_L) := ⟨rfl, rfl, rfl, by decide +kernel, rfl, by decide +kernel, by decide +kernel⟩
theorem nd_numbers_L : N_numbers_L.Nodup := sc_numbers_L.nd
theorem ok_numbers_L [md : Md] {P : Program} {w : World} {K : PySem.W.Frag} {mg : Str → Option Value} {base : Heap} {cl : Cl} {fa : Addr} {fd : FuncData} (B : Bl mg) (hK : cl.K = K) (F : Fun K "_law_numbers" "_law_numbers" st_numbers_L fa fd) (gm : mg "_law_numbers" = some (.ref fa)) (bn : Binds K fd ["_law_script", "_law_many"] [])  : Fi P w K mg base cl "_law_numbers" 1 [false, false] (.own none) f_numbers_L := by
  refine def_ok (ls := [.own none, .val, .val, .val, .val]) (m := m_numbers_L) (ks' := []) F sc_numbers_L gm bn rfl rfl rfl (.inr rfl) (fun cdv A outer s H E h0 s0 b0 hr => ?_)
  exact (sb_cons (ss_set (i := 2) nd_numbers_L (se_lst (n := 0) sa_nil))
  (sb_cons (ss_set (i := 3) nd_numbers_L se_int)
  (sb_cons (ss_for (passes_of rfl) rfl (si_it (sq_val ((se_slS hK (se_varB (i := 0) (hq := nq__law_script)) so_none (so_some (se_int).valBor))).toVal)) (sg_name nd_numbers_L) (fun s => (sb_cons (ss_set (i := 3) nd_numbers_L (se_mod ((se_add ((se_add ((se_mul ((se_var (i := 3) (hq := nq__law_seed))).valBor (se_int).valBor)).toBor ((se_mod ((se_var (i := 4) (hq := nq__law_cell))).valBor (se_int).valBor)).valBor)).toBor (se_int).valBor)).toBor (se_int).valBor))
  (sb_cons (ss_set (i := 5) nd_numbers_L (se_sub ((se_var (i := 4) (hq := nq__law_cell))).valBor ((se_pow (se_int).valBor (se_int).valBor)).valBor))
  (sb_cons (ss_if (st_cmp op_lt opv_lt nox_lt ((se_var (i := 5) (hq := nq__law_rest))).valBor (se_int).valBor)
  (sb_cons (ss_append (i := 2) (hq := nq__law_row) (se_mod ((se_var (i := 4) (hq := nq__law_cell))).valBor (se_int).valBor))
  sb_nil)
  sb_nil)
  (sb_cons (ss_for (passes_of rfl) rfl (si_range1 B.range (se_int).valBor) (sg_name nd_numbers_L) (fun s => (sb_cons (ss_if (st_cmp op_gt opv_gt nox_gt ((se_var (i := 5) (hq := nq__law_rest))).valBor (se_int).valBor)
  (sb_cons (ss_append (i := 2) (hq := nq__law_row) (se_mod ((se_var (i := 5) (hq := nq__law_rest))).valBor (se_int).valBor))
  (sb_cons (ss_set (i := 5) nd_numbers_L (se_fdiv ((se_var (i := 5) (hq := nq__law_rest))).valBor (se_int).valBor))
  sb_nil))
  sb_nil)
  sb_nil)) (by first | decide | simp [Tg.is]))
  sb_nil))))) (by first | decide | simp [Tg.is]))
  (sb_cons (ss_while WB (passes_of rfl) (st_cmp op_lt opv_lt nox_lt ((sf_Len B (sa_b (se_varB (i := 2) (hq := nq__law_row)) sa_nil))).valBor (se_varB (i := 1) (hq := nq__law_many)))
  (sb_cons (ss_set (i := 3) nd_numbers_L (se_mod ((se_add ((se_add ((se_add ((se_mul ((se_var (i := 3) (hq := nq__law_seed))).valBor ((se_var (i := 3) (hq := nq__law_seed))).valBor)).toBor ((se_mul (se_int).valBor ((se_var (i := 3) (hq := nq__law_seed))).valBor)).toBor)).toBor ((se_mul (se_int).valBor ((sf_Len B (sa_b (se_varB (i := 2) (hq := nq__law_row)) sa_nil))).valBor)).toBor)).toBor (se_int).valBor)).toBor (se_int).valBor))
  (sb_cons (ss_append (i := 2) (hq := nq__law_row) (se_mod ((se_fdiv ((se_var (i := 3) (hq := nq__law_seed))).valBor (se_int).valBor)).valBor (se_int).valBor))
  sb_nil)))
  (sb_cons (ss_ret (se_slL (se_varB (i := 2) (hq := nq__law_row)) so_none (so_some (se_varB (i := 1) (hq := nq__law_many)))))
  sb_nil)))))
abbrev st_same_L : Stmt := topS 34
abbrev N_same_L : List Str := ["_law_found", "_law_due", "_law_k"]
theorem sc_same_L : FnScope N_same_L ["_law_found", "_law_due"] (defScope st_same_L) := ⟨rfl, rfl, rfl, by decide +kernel, rfl, by decide +kernel, by decide +kernel⟩
theorem nd_same_L : N_same_L.Nodup := sc_same_L.nd
theorem ok_same_L [md : Md] {P : Program} {w : World} {K : PySem.W.Frag} {mg : Str → Option Value} {base : Heap} {cl : Cl} {fa : Addr} {fd : FuncData} (B : Bl mg) (hK : cl.K = K) (F : Fun K "_law_same" "_law_same" st_same_L fa fd) (gm : mg "_law_same" = some (.ref fa)) (bn : Binds K fd ["_law_found", "_law_due"] [])  : ∀ n, Fi P w K mg base cl "_law_same" n [false, false] .val (f_same_L n)
  | 0 => fi_stuck gm F.kp bn
  | n + 1 => by
    have Fs := ok_same_L (w := w) (P := P) (base := base) (cl := cl) B hK F gm bn  n
    refine def_ok (ls := [.val]) (m := m_same_L (f_same_L n)) (ks' := []) F sc_same_L gm bn rfl rfl rfl (.inl rfl) (fun cdv A outer s H E h0 s0 b0 hr => ?_)
    exact (sb_cons (ss_if (st_isN (se_varB (i := 1) (hq := nq__law_due)))
  (sb_cons (ss_ret (se_isN (se_varB (i := 0) (hq := nq__law_found))))
  sb_nil)
  sb_nil)
  (sb_cons (ss_if (st_val ((se_isiLT (se_varB (i := 1) (hq := nq__law_due)) B.isinstance B.list B.tuple)).valBor)
  (sb_cons (ss_if (st_of (sw_or (st_cmp (op_neD hr.units) opv_ne nox_ne ((si_list B (se_varB (i := 0) (hq := nq__law_found)))).valBor ((si_list B (se_varB (i := 1) (hq := nq__law_due)))).valBor) (sw_or1 (st_cmp (op_neD hr.units) opv_ne nox_ne ((si_tuple B (se_varB (i := 0) (hq := nq__law_found)))).valBor ((si_tuple B (se_varB (i := 1) (hq := nq__law_due)))).valBor))))
  (sb_cons (ss_ret se_bl)
  sb_nil)
  sb_nil)
  (sb_cons (ss_ret (se_and (se_cmp (op_eqD hr.units) opv_eq nox_eq ((sf_Len B (sa_b (se_varB (i := 0) (hq := nq__law_found)) sa_nil))).valBor ((sf_Len B (sa_b (se_varB (i := 1) (hq := nq__law_due)) sa_nil))).valBor) (se_one (sf_All B (sa_b (SE.toBor (se_comp [("_law_k", 2)] rfl nd_same_L (si_range1 B.range ((sf_Len B (sa_b (se_varB (i := 1) (hq := nq__law_due)) sa_nil))).valBor) (blkOk_by (N := N_same_L) (sc := defScope st_same_L) (own := [("_law_k", 2)]) (by decide +kernel)) (by decide) (by decide) (fun _ _ _ _ _ => sg_name nd_same_L) (fun _ _ _ _ _ => sp_nil) (fun _ _ _ _ _ => (se_call Fs (hr.mono (by omega)) (sa_b ((se_ix (se_varB (i := 0) (hq := nq__law_found)) ((se_var (i := 2) (hq := nq__law_k))).valBor)).valBor (sa_b ((se_ix (se_varB (i := 1) (hq := nq__law_due)) ((se_var (i := 2) (hq := nq__law_k))).valBor)).valBor sa_nil)) nq__law_same)))) sa_nil)))))
  sb_nil))
  sb_nil)
  (sb_cons (ss_if (st_of (sw_or (st_cmp (op_neD hr.units) opv_ne nox_ne ((si_bool B (se_varB (i := 0) (hq := nq__law_found)))).valBor ((si_bool B (se_varB (i := 1) (hq := nq__law_due)))).valBor) (sw_or1 (st_cmp (op_neD hr.units) opv_ne nox_ne ((si_str B (se_varB (i := 0) (hq := nq__law_found)))).valBor ((si_str B (se_varB (i := 1) (hq := nq__law_due)))).valBor))))
  (sb_cons (ss_ret se_bl)
  sb_nil)
  sb_nil)
  (sb_cons (ss_ret (se_and (se_cmp (op_eqD hr.units) opv_eq nox_eq ((si_int B (se_varB (i := 0) (hq := nq__law_found)))).valBor ((si_int B (se_varB (i := 1) (hq := nq__law_due)))).valBor) (se_one (se_cmp (op_eqD hr.units) opv_eq nox_eq (se_varB (i := 0) (hq := nq__law_found)) (se_varB (i := 1) (hq := nq__law_due))))))
  sb_nil))))
abbrev st_lesser_L : Stmt := topS 35
abbrev N_lesser_L : List Str := ["_law_found", "_law_size", "_law_own", "_law_offset"]
theorem sc_lesser_L : FnScope N_lesser_L ["_law_found", "_law_size"] (defScope st_lesser_L) := ⟨rfl, rfl, rfl, by decide +kernel, rfl, by decide +kernel, by decide +kernel⟩
theorem nd_lesser_L : N_lesser_L.Nodup := sc_lesser_L.nd
theorem ok_lesser_L [md : Md] {P : Program} {w : World} {K : PySem.W.Frag} {mg : Str → Option Value} {base : Heap} {cl : Cl} {fa : Addr} {fd : FuncData} (B : Bl mg) (hK : cl.K = K) (F : Fun K "_law_lesser" "_law_lesser" st_lesser_L fa fd) (gm : mg "_law_lesser" = some (.ref fa)) (bn : Binds K fd ["_law_found", "_law_size"] [])  : Fi P w K mg base cl "_law_lesser" 1 [false, false] .val f_lesser_L := by
  refine def_ok (ls := [.val, .val]) (m := m_lesser_L) (ks' := []) F sc_lesser_L gm bn rfl rfl rfl (.inl rfl) (fun cdv A outer s H E h0 s0 b0 hr => ?_)
  exact (sb_cons (ss_ret (sf_Sum B (sa_b (SE.toBor (se_comp [("_law_own", 2), ("_law_offset", 3)] rfl nd_lesser_L (si_it (sq_bor (se_varB (i := 0) (hq := nq__law_found)))) (blkOk_by (N := N_lesser_L) (sc := defScope st_lesser_L) (own := [("_law_own", 2), ("_law_offset", 3)]) (by decide +kernel)) (by decide) (by decide) (fun _ _ _ _ _ => sg_tup rfl (sgs_cons nd_lesser_L (sgs_cons nd_lesser_L sgs_nil))) (fun _ _ _ _ _ => sp_nil) (fun _ _ _ _ _ => (sf_Min2 B (sa_b (se_varB (i := 1) (hq := nq__law_size)) (sa_b ((se_var (i := 2) (hq := nq__law_own))).valBor sa_nil)))))) sa_nil)))
  sb_nil)
abbrev st_list_L : Stmt := topS 36
abbrev N_list_L : List Str := ["_law_row", "_law_found", "_law_place", "_law_ripe", "_law_size", "_law_offset"]
theorem sc_list_L : FnScope N_list_L ["_law_row"] (defScope st_list_L) := ⟨rfl, rfl, rfl, by decide +kernel, rfl, by decide +kernel, by decide +kernel⟩
theorem nd_list_L : N_list_L.Nodup := sc_list_L.nd
theorem ok_list_L [md : Md] {P : Program} {w : World} {K : PySem.W.Frag} {mg : Str → Option Value} {base : Heap} {cl : Cl} {fa : Addr} {fd : FuncData} (B : Bl mg) (hK : cl.K = K) (F : Fun K "_law_list" "_law_list" st_list_L fa fd) (gm : mg "_law_list" = some (.ref fa)) (bn : Binds K fd ["_law_row"] []) (F_lesser_L : Fi P w K mg base cl "_law_lesser" 1 [false, false] .val f_lesser_L) : Fi P w K mg base cl "_law_list" 2 [false] (.own none) f_list_L := by
  refine def_ok (ls := [.own none, .val, .val, .val, .val]) (m := m_list_L) (ks' := []) F sc_list_L gm bn rfl rfl rfl (.inr rfl) (fun cdv A outer s H E h0 s0 b0 hr => ?_)
  exact (sb_cons (ss_set (i := 1) nd_list_L (se_lst (n := 0) sa_nil))
  (sb_cons (ss_for (passes_of rfl) rfl (si_it (sq_par (i := 0) (hq := nq__law_row))) (sg_name nd_list_L) (fun s => (sb_cons (ss_frzB (i := 3) (ss_setLc (i := 3) [("_law_size", 4), ("_law_offset", 5)] rfl nd_list_L (si_it (sq_bor (se_varB (i := 1) (hq := nq__law_found)))) (blkOk_by (N := N_list_L) (sc := defScope st_list_L) (own := [("_law_size", 4), ("_law_offset", 5)]) (by decide +kernel)) (by decide) (by decide) (fun _ _ _ _ _ => sg_tup rfl (sgs_cons nd_list_L (sgs_cons nd_list_L sgs_nil))) (fun _ _ _ _ _ => (sp_one (st_cmp (op_eqD hr.units) opv_eq nox_eq ((se_var (i := 5) (hq := nq__law_offset))).valBor ((se_sub ((se_sub ((se_var (i := 2) (hq := nq__law_place))).valBor (se_int).valBor)).valBor ((se_mul (se_int).valBor ((se_call F_lesser_L (hr.mono (by decide)) (sa_b (se_varB (i := 1) (hq := nq__law_found)) (sa_b ((se_var (i := 4) (hq := nq__law_size))).valBor sa_nil)) nq__law_lesser)).valBor)).toBor)).valBor))) (fun _ _ _ _ _ => (se_var (i := 4) (hq := nq__law_size))) (sw_true rfl rfl rfl (by decide +kernel))))
  (sb_cons (ss_set (i := 4) nd_list_L (se_maxD B ((se_var (i := 3) (hq := nq__law_ripe))).valBor se_int))
  (sb_cons (ss_if (st_cmp op_gt opv_gt nox_gt ((se_var (i := 4) (hq := nq__law_size))).valBor (se_int).valBor)
  (sb_cons (ss_remove hr.units65 (i := 1) (hq := nq__law_found) (se_tup (n := 2) (sa_v (se_var (i := 4) (hq := nq__law_size)) (sa_v (se_sub ((se_sub ((se_var (i := 2) (hq := nq__law_place))).valBor (se_int).valBor)).valBor ((se_mul (se_int).valBor ((se_call F_lesser_L (hr.mono (by decide)) (sa_b (se_varB (i := 1) (hq := nq__law_found)) (sa_b ((se_var (i := 4) (hq := nq__law_size))).valBor sa_nil)) nq__law_lesser)).valBor)).toBor) sa_nil))))
  sb_nil)
  sb_nil)
  (sb_cons (ss_append (i := 1) (hq := nq__law_found) (se_tup (n := 2) (sa_v ((se_add ((se_var (i := 4) (hq := nq__law_size))).valBor (se_int).valBor)).toVal (sa_v se_int sa_nil))))
  (sb_cons (ss_setI (i := 1) (hq := nq__law_found) ((se_neg (se_int).valBor)).valBor (se_tup (n := 2) (sa_v ((se_add ((se_var (i := 4) (hq := nq__law_size))).valBor (se_int).valBor)).toVal (sa_v (se_sub ((se_var (i := 2) (hq := nq__law_place))).valBor ((se_mul (se_int).valBor ((se_call F_lesser_L (hr.mono (by decide)) (sa_b (se_varB (i := 1) (hq := nq__law_found)) (sa_b ((se_add ((se_var (i := 4) (hq := nq__law_size))).valBor (se_int).valBor)).toBor sa_nil)) nq__law_lesser)).valBor)).toBor) sa_nil))))
  sb_nil)))))) (by first | decide | simp [Tg.is]))
  (sb_cons (ss_ret (sf_Sorted B (sa_b (se_varB (i := 1) (hq := nq__law_found)) sa_nil)))
  sb_nil)))
abbrev st_sober_L : Stmt := topS 37
abbrev N_sober_L : List Str := ["_law_niches", "_law_row", "_law_stones", "_law_niche", "_law_place"]
theorem sc_sober_L : FnScope N_sober_L ["_law_niches", "_law_row"] (defScope st_sober_L) := ⟨rfl, rfl, rfl, by decide +kernel, rfl, by decide +kernel, by decide +kernel⟩
theorem nd_sober_L : N_sober_L.Nodup := sc_sober_L.nd
theorem ok_sober_L [md : Md] {P : Program} {w : World} {K : PySem.W.Frag} {mg : Str → Option Value} {base : Heap} {cl : Cl} {fa : Addr} {fd : FuncData} (B : Bl mg) (hK : cl.K = K) (F : Fun K "_law_sober" "_law_sober" st_sober_L fa fd) (gm : mg "_law_sober" = some (.ref fa)) (bn : Binds K fd ["_law_niches", "_law_row"] [])  : Fi P w K mg base cl "_law_sober" 1 [false, false] .val f_sober_L := by
  refine def_ok (ls := [.val, .val, .val]) (m := m_sober_L) (ks' := []) F sc_sober_L gm bn rfl rfl rfl (.inl rfl) (fun cdv A outer s H E h0 s0 b0 hr => ?_)
  exact (sb_cons (ss_set (i := 2) nd_sober_L se_int)
  (sb_cons (ss_for (passes_of rfl) rfl (si_range2 B.range (se_int).valBor ((se_add (se_varB (i := 0) (hq := nq__law_niches)) (se_int).valBor)).toBor) (sg_name nd_sober_L) (fun s => (sb_cons (ss_iadd (i := 2) nd_sober_L ((sf_Int B (sa_b ((se_cmp ((op_inD hr.units65).or op_in_sign) opv_in nox_in ((se_var (i := 3) (hq := nq__law_niche))).valBor (se_varB (i := 1) (hq := nq__law_row)))).valBor sa_nil))).valBor)
  (sb_cons (ss_if (st_cmp op_gt opv_gt nox_gt ((se_mul (se_int).valBor ((se_var (i := 2) (hq := nq__law_stones))).valBor)).toBor ((se_var (i := 3) (hq := nq__law_niche))).valBor)
  (sb_cons (ss_ret se_bl)
  sb_nil)
  sb_nil)
  sb_nil))) (by first | decide | simp [Tg.is]))
  (sb_cons (ss_ret (sf_All B (sa_b (SE.toBor (se_comp [("_law_place", 4)] rfl nd_sober_L (si_it (sq_bor (se_varB (i := 1) (hq := nq__law_row)))) (blkOk_by (N := N_sober_L) (sc := defScope st_sober_L) (own := [("_law_place", 4)]) (by decide +kernel)) (by decide) (by decide) (fun _ _ _ _ _ => sg_name nd_sober_L) (fun _ _ _ _ _ => sp_nil) (fun _ _ _ _ _ => (se_chain op_le opv_le nox_le op_le opv_le nox_le (se_int).valBor ((se_var (i := 4) (hq := nq__law_place))).valBor (se_varB (i := 0) (hq := nq__law_niches)))))) sa_nil)))
  sb_nil)))
abbrev st_space_L : Stmt := topS 38
abbrev N_space_L : List Str := ["_law_niches", "_law_sizes", "_law_size", "_law_own"]
theorem sc_space_L : FnScope N_space_L ["_law_niches", "_law_sizes", "_law_size"] (defScope st_space_L) := ⟨rfl, rfl, rfl, by decide +kernel, rfl, by decide +kernel, by decide +kernel⟩
theorem nd_space_L : N_space_L.Nodup := sc_space_L.nd
theorem ok_space_L [md : Md] {P : Program} {w : World} {K : PySem.W.Frag} {mg : Str → Option Value} {base : Heap} {cl : Cl} {fa : Addr} {fd : FuncData} (B : Bl mg) (hK : cl.K = K) (F : Fun K "_law_space" "_law_space" st_space_L fa fd) (gm : mg "_law_space" = some (.ref fa)) (bn : Binds K fd ["_law_niches", "_law_sizes", "_law_size"] [])  : Fi P w K mg base cl "_law_space" 1 [false, false, false] .val f_space_L := by
  refine def_ok (ls := [.val]) (m := m_space_L) (ks' := []) F sc_space_L gm bn rfl rfl rfl (.inl rfl) (fun cdv A outer s H E h0 s0 b0 hr => ?_)
  exact (sb_cons (ss_ret (se_sub (se_varB (i := 0) (hq := nq__law_niches)) ((se_mul (se_int).valBor ((sf_Sum B (sa_b (SE.toBor (se_comp [("_law_own", 3)] rfl nd_space_L (si_it (sq_bor (se_varB (i := 1) (hq := nq__law_sizes)))) (blkOk_by (N := N_space_L) (sc := defScope st_space_L) (own := [("_law_own", 3)]) (by decide +kernel)) (by decide) (by decide) (fun _ _ _ _ _ => sg_name nd_space_L) (fun _ _ _ _ _ => sp_nil) (fun _ _ _ _ _ => (sf_Min2 B (sa_b (se_varB (i := 2) (hq := nq__law_size)) (sa_b ((se_var (i := 3) (hq := nq__law_own))).valBor sa_nil)))))) sa_nil))).valBor)).toBor))
  sb_nil)
abbrev st_choose_L : Stmt := topS 39
abbrev N_choose_L : List Str := ["_law_many", "_law_things", "_law_found", "_law_step"]
theorem sc_choose_L : FnScope N_choose_L ["_law_many", "_law_things"] (defScope st_choose_L) := ⟨rfl, rfl, rfl, by decide +kernel, rfl, by decide +kernel, by decide +kernel⟩
theorem nd_choose_L : N_choose_L.Nodup := sc_choose_L.nd
theorem ok_choose_L [md : Md] {P : Program} {w : World} {K : PySem.W.Frag} {mg : Str → Option Value} {base : Heap} {cl : Cl} {fa : Addr} {fd : FuncData} (B : Bl mg) (hK : cl.K = K) (F : Fun K "_law_choose" "_law_choose" st_choose_L fa fd) (gm : mg "_law_choose" = some (.ref fa)) (bn : Binds K fd ["_law_many", "_law_things"] [])  : Fi P w K mg base cl "_law_choose" 1 [false, false] .val f_choose_L := by
  refine def_ok (ls := [.val, .val]) (m := m_choose_L) (ks' := []) F sc_choose_L gm bn rfl rfl rfl (.inl rfl) (fun cdv A outer s H E h0 s0 b0 hr => ?_)
  exact (sb_cons (ss_set (i := 2) nd_choose_L se_int)
  (sb_cons (ss_for (passes_of rfl) rfl (si_range1 B.range (se_varB (i := 0) (hq := nq__law_many))) (sg_name nd_choose_L) (fun s => (sb_cons (ss_set (i := 2) nd_choose_L (se_fdiv ((se_mul ((se_var (i := 2) (hq := nq__law_found))).valBor ((se_add (se_varB (i := 1) (hq := nq__law_things)) ((se_var (i := 3) (hq := nq__law_step))).valBor)).toBor)).toBor ((se_add ((se_var (i := 3) (hq := nq__law_step))).valBor (se_int).valBor)).toBor))
  sb_nil)) (by first | decide | simp [Tg.is]))
  (sb_cons (ss_ret (se_var (i := 2) (hq := nq__law_found)))
  sb_nil)))
abbrev st_count_L : Stmt := topS 40
abbrev N_count_L : List Str := ["_law_niches", "_law_sizes", "_law_found", "_law_size", "_law_most"]
theorem sc_count_L : FnScope N_count_L ["_law_niches", "_law_sizes"] (defScope st_count_L) := ⟨rfl, rfl, rfl, by decide +kernel, rfl, by decide +kernel, by decide +kernel⟩
theorem nd_count_L : N_count_L.Nodup := sc_count_L.nd
theorem ok_count_L [md : Md] {P : Program} {w : World} {K : PySem.W.Frag} {mg : Str → Option Value} {base : Heap} {cl : Cl} {fa : Addr} {fd : FuncData} (B : Bl mg) (hK : cl.K = K) (F : Fun K "_law_count" "_law_count" st_count_L fa fd) (gm : mg "_law_count" = some (.ref fa)) (bn : Binds K fd ["_law_niches", "_law_sizes"] []) (F_space_L : Fi P w K mg base cl "_law_space" 1 [false, false, false] .val f_space_L) (F_choose_L : Fi P w K mg base cl "_law_choose" 1 [false, false] .val f_choose_L) : Fi P w K mg base cl "_law_count" 2 [false, false] .val f_count_L := by
  refine def_ok (ls := [.val, .val, .val]) (m := m_count_L) (ks' := []) F sc_count_L gm bn rfl rfl rfl (.inl rfl) (fun cdv A outer s H E h0 s0 b0 hr => ?_)
  exact (sb_cons (ss_set (i := 2) nd_count_L se_int)
  (sb_cons (ss_for (passes_of rfl) rfl (si_it (sq_val ((se_sortedSet B (se_varB (i := 1) (hq := nq__law_sizes)))).toVal)) (sg_name nd_count_L) (fun s => (sb_cons (ss_set (i := 4) nd_count_L (se_call F_space_L (hr.mono (by decide)) (sa_b (se_varB (i := 0) (hq := nq__law_niches)) (sa_b (se_varB (i := 1) (hq := nq__law_sizes)) (sa_b ((se_var (i := 3) (hq := nq__law_size))).valBor sa_nil))) nq__law_space))
  (sb_cons (ss_set (i := 2) nd_count_L ((se_mul ((se_var (i := 2) (hq := nq__law_found))).valBor ((se_if (st_cmp op_lt opv_lt nox_lt ((se_var (i := 4) (hq := nq__law_most))).valBor (se_int).valBor) se_int (se_call F_choose_L (hr.mono (by decide)) (sa_b ((se_cnt (se_varB (i := 1) (hq := nq__law_sizes)) ((se_var (i := 3) (hq := nq__law_size))).valBor)).valBor (sa_b ((se_add ((se_var (i := 4) (hq := nq__law_most))).valBor (se_int).valBor)).toBor sa_nil)) nq__law_choose))).valBor)).toVal)
  sb_nil))) (by first | decide | simp [Tg.is]))
  (sb_cons (ss_ret (se_var (i := 2) (hq := nq__law_found)))
  sb_nil)))
abbrev st_law : Stmt := topS 41
abbrev N_law : List Str := ["_law_script", "_law_numbers_here", "_law_niches", "_law_sizes", "_law_k", "_law_count_here", "_law_some", "_law_number", "_law_step", "_law_row"]
theorem sc_law : FnScope N_law ["_law_script"] (defScope st_law) := ⟨rfl, rfl, rfl, by decide +kernel, rfl, by decide +kernel, by decide +kernel⟩
theorem nd_law : N_law.Nodup := sc_law.nd
open ModeZ in
theorem ok_law {P : Program} {w : World} {K : PySem.W.Frag} {mg : Str → Option Value} {base : Heap} {cl : Cl} {fa : Addr}  {c BB : Addr} {oc kV doc pm ct : Value} {od an : Option Addr} {osl : Array (Option Value)} (B : Bl mg) (hK : cl.K = K) (lk : K.lookup fa = some ⟨oc, od, .func (PySem.W.fnOf "law" "law" (defArgs st_law) (defBody st_law) (defScope st_law) .none kV doc pm an (.ref c) ct), osl⟩) (hcd : PySem.W.codeIn K (.ref c) "law" = true) (TB : LamX.TabB base mg c BB) (F_numbers_L : Fi P w K mg base cl "_law_numbers" 1 [false, false] (.own none) f_numbers_L) (F_count_L : Fi P w K mg base cl "_law_count" 2 [false, false] .val f_count_L) (F_row_numbered : Fi P w K mg base cl "row_numbered" 6 [false, false, true] (.own none) f_row_numbered) (F_number_of : Fi P w K mg base cl "number_of" 6 [false, false] .val f_number_of) (F_same_L : Fi P w K mg base cl "_law_same" 8 [false, false] .val (f_same_L 8)) (F_sober_L : Fi P w K mg base cl "_law_sober" 1 [false, false] .val f_sober_L) (F_list_L : Fi P w K mg base cl "_law_list" 2 [false] (.own none) f_list_L) : FnOk P w K mg base (L2.CX P w) 9 fa (PySem.W.fnOf "law" "law" (defArgs st_law) (defBody st_law) (defScope st_law) .none kV doc pm an (.ref c) ct) ["_law_script"] (fun vs H Q E => LamX.TabS H BB lamQ ∧ spV cl [false] .val f_law vs H Q E) := by
  refine def_okT (ls := [.val, .val, .val, .val, .val, .own none, .val, .val, .val]) (m := m_law) (ks' := []) lk hcd sc_law rfl rfl rfl (.inl rfl) (fun A outer s H E h0 s0 b0 hT hr => ?_)
  exact (sb_cons (ss_set (i := 1) nd_law ((se_call F_numbers_L (hr.mono (by decide)) (sa_b (se_varB (i := 0) (hq := nq__law_script)) (sa_b (se_int).valBor sa_nil)) nq__law_numbers)).toVal)
  (sb_cons (ss_set (i := 2) nd_law ((se_add (se_int).valBor ((se_mod ((se_ix ((se_var (i := 1) (hq := nq__law_numbers_here))).valBor (se_int).valBor)).valBor (se_int).valBor)).valBor)).toVal)
  (sb_cons (ss_frzB (i := 3) (ss_setLc (i := 3) [("_law_k", 4)] rfl nd_law (si_range1 B.range ((se_add (se_int).valBor ((se_mod ((se_ix ((se_var (i := 1) (hq := nq__law_numbers_here))).valBor (se_int).valBor)).valBor (se_int).valBor)).valBor)).toBor) (blkOk_by (N := N_law) (sc := defScope st_law) (own := [("_law_k", 4)]) (by decide +kernel)) (by decide) (by decide) (fun _ _ _ _ _ => sg_name nd_law) (fun _ _ _ _ _ => sp_nil) (fun _ _ _ _ _ => ((se_add (se_int).valBor ((se_mod ((se_ix ((se_var (i := 1) (hq := nq__law_numbers_here))).valBor ((se_add (se_int).valBor ((se_var (i := 4) (hq := nq__law_k))).valBor)).toBor)).valBor ((se_ix ((se_lst (n := 3) (sa_v se_int (sa_v se_int (sa_v se_int sa_nil))))).toBor ((se_mod ((se_ix ((se_var (i := 1) (hq := nq__law_numbers_here))).valBor (se_int).valBor)).valBor (se_int).valBor)).valBor)).valBor)).valBor)).toVal) (sw_true rfl rfl rfl (by decide +kernel))))
  (sb_cons (ss_while WB (passes_of rfl) (st_of (sw_or (st_cmp op_gt opv_gt nox_gt ((sf_Sum B (sa_b ((se_var (i := 3) (hq := nq__law_sizes))).valBor sa_nil))).valBor (se_int).valBor) (sw_or1 (st_cmp op_gt opv_gt nox_gt ((se_mul (se_int).valBor ((sf_Sum B (sa_b ((se_var (i := 3) (hq := nq__law_sizes))).valBor sa_nil))).valBor)).toBor ((se_var (i := 2) (hq := nq__law_niches))).valBor))))
  (sb_cons (ss_set (i := 3) nd_law ((se_add ((se_slL ((se_var (i := 3) (hq := nq__law_sizes))).valBor (so_some (se_int).valBor) so_none)).toBor ((se_mul ((se_lst (n := 1) (sa_v (sf_Max2 B (sa_b (se_int).valBor (sa_b ((se_sub ((se_ix ((se_var (i := 3) (hq := nq__law_sizes))).valBor (se_int).valBor)).valBor (se_int).valBor)).valBor sa_nil))) sa_nil))).toBor ((sf_Int B (sa_b ((se_cmp (op_eqD hr.units) opv_eq nox_eq ((sf_Len B (sa_b ((se_var (i := 3) (hq := nq__law_sizes))).valBor sa_nil))).valBor (se_int).valBor)).valBor sa_nil))).valBor)).toBor)).toVal)
  sb_nil))
  (sb_cons (ss_set (i := 5) nd_law (se_call F_count_L (hr.mono (by decide)) (sa_b ((se_var (i := 2) (hq := nq__law_niches))).valBor (sa_b ((se_var (i := 3) (hq := nq__law_sizes))).valBor sa_nil)) nq__law_count))
  (sb_cons (ss_set (i := 6) nd_law (se_lst (n := 0) sa_nil))
  (sb_cons (ss_for (passes_of rfl) rfl (si_range1 B.range (se_int).valBor) (sg_name nd_law) (fun s => (sb_cons (ss_set (i := 7) nd_law (se_ix ((se_var (i := 1) (hq := nq__law_numbers_here))).valBor ((se_add (se_int).valBor ((se_var (i := 4) (hq := nq__law_k))).valBor)).toBor))
  (sb_cons (ss_for (passes_of rfl) rfl (si_range1 B.range (se_int).valBor) (sg_name nd_law) (fun s => (sb_cons (ss_set (i := 7) nd_law ((se_add ((se_mul ((se_var (i := 7) (hq := nq__law_number))).valBor (se_int).valBor)).toBor ((se_ix ((se_var (i := 1) (hq := nq__law_numbers_here))).valBor ((se_add (se_int).valBor ((se_mod ((se_add ((se_var (i := 4) (hq := nq__law_k))).valBor ((se_mul (se_int).valBor ((se_var (i := 8) (hq := nq__law_step))).valBor)).toBor)).toBor (se_int).valBor)).valBor)).toBor)).valBor)).toVal)
  sb_nil)) (by first | decide | simp [Tg.is]))
  (sb_cons (ss_set (i := 7) nd_law (se_mod ((se_var (i := 7) (hq := nq__law_number))).valBor ((se_var (i := 5) (hq := nq__law_count_here))).valBor))
  (sb_cons (ss_set (i := 9) nd_law ((se_call F_row_numbered (hr.mono (by decide)) (sa_b ((se_var (i := 2) (hq := nq__law_niches))).valBor (sa_b ((sf_List B (sa_b ((se_var (i := 3) (hq := nq__law_sizes))).valBor sa_nil))).toBor (sa_v (se_var (i := 7) (hq := nq__law_number)) sa_nil))) nq_row_numbered)).toVal)
  (sb_cons (ss_if (st_of (sw_or (st_not (st_val ((se_call F_sober_L (hr.mono (by decide)) (sa_b ((se_var (i := 2) (hq := nq__law_niches))).valBor (sa_b ((se_var (i := 9) (hq := nq__law_row))).valBor sa_nil)) nq__law_sober)).valBor)) (sw_or1 (st_not (st_val ((se_call F_same_L (hr.mono (by decide)) (sa_b ((se_call F_number_of (hr.mono (by decide)) (sa_b ((se_var (i := 2) (hq := nq__law_niches))).valBor (sa_b ((sf_List B (sa_b ((se_var (i := 9) (hq := nq__law_row))).valBor sa_nil))).toBor sa_nil)) nq_number_of)).valBor (sa_b ((se_var (i := 7) (hq := nq__law_number))).valBor sa_nil)) nq__law_same)).valBor)))))
  (sb_cons (ss_ret se_bl)
  sb_nil)
  sb_nil)
  (sb_cons (ss_append (i := 6) (hq := nq__law_some) (se_tup (n := 2) (sa_v (se_var (i := 7) (hq := nq__law_number)) (sa_v ((se_call F_list_L (hr.mono (by decide)) (sa_b ((se_var (i := 9) (hq := nq__law_row))).valBor sa_nil) nq__law_list)).toVal sa_nil))))
  sb_nil))))))) (by first | decide | simp [Tg.is]))
  (sb_cons (ss_ret (se_cmp (op_eqD hr.units) opv_eq nox_eq ((se_sortedD B hr.units65 (se_varB (i := 6) (hq := nq__law_some)))).toBor ((se_sortK (j := 1) (k := 0) B (hr.mono (by decide)) (se_varB (i := 6) (hq := nq__law_some)) TB hT (by exact ⟨rfl, rfl, rfl, by decide +kernel, _, _, _, _, _, rfl, rfl, by decide, fun _ _ _ _ _ _ => rfl⟩))).toBor))
  sb_nil))))))))
abbrev in_BadRow : Stmt := initS 4
theorem isc_BadRow : FnScope ["self", "at"] ["self", "at"] (defScope in_BadRow) := ⟨rfl, rfl, rfl, by decide +kernel, rfl, by decide +kernel, by decide +kernel⟩
abbrev in_BadSizes : Stmt := initS 5
theorem isc_BadSizes : FnScope ["self", "at"] ["self", "at"] (defScope in_BadSizes) := ⟨rfl, rfl, rfl, by decide +kernel, rfl, by decide +kernel, by decide +kernel⟩
theorem bn_look_row {K : PySem.W.Frag} {fa : Addr} {fd : FuncData} (F : Fun K "look_row" "look_row" st_look_row fa fd) : Binds K fd ["row"] [] := F.binds fun _ _ _ _ _ _ us hl => match us, hl with | [_], _ => rfl
theorem bn_share {K : PySem.W.Frag} {fa : Addr} {fd : FuncData} (F : Fun K "share" "share" st_share fa fd) : Binds K fd ["trains", "size"] [] := F.binds fun _ _ _ _ _ _ us hl => match us, hl with | [_, _], _ => rfl
theorem bn_mark {K : PySem.W.Frag} {fa : Addr} {fd : FuncData} (F : Fun K "mark" "mark" st_mark fa fd) : Binds K fd ["trains", "size", "place"] [] := F.binds fun _ _ _ _ _ _ us hl => match us, hl with | [_, _, _], _ => rfl
theorem bn_longest_ripe {K : PySem.W.Frag} {fa : Addr} {fd : FuncData} (F : Fun K "longest_ripe" "longest_ripe" st_longest_ripe fa fd) : Binds K fd ["found", "place"] [] := F.binds fun _ _ _ _ _ _ us hl => match us, hl with | [_, _], _ => rfl
theorem bn_grown {K : PySem.W.Frag} {fa : Addr} {fd : FuncData} (F : Fun K "grown" "grown" st_grown fa fd) : Binds K fd ["found", "place"] [] := F.binds fun _ _ _ _ _ _ us hl => match us, hl with | [_, _], _ => rfl
theorem bn_list_of {K : PySem.W.Frag} {fa : Addr} {fd : FuncData} (F : Fun K "list_of" "list_of" st_list_of fa fd) : Binds K fd ["row"] [] := F.binds fun _ _ _ _ _ _ us hl => match us, hl with | [_], _ => rfl
theorem bn_next_place {K : PySem.W.Frag} {fa : Addr} {fd : FuncData} (F : Fun K "next_place" "next_place" st_next_place fa fd) : Binds K fd ["left"] [] := F.binds fun _ _ _ _ _ _ us hl => match us, hl with | [_], _ => rfl
theorem bn_shortest_ripe {K : PySem.W.Frag} {fa : Addr} {fd : FuncData} (F : Fun K "shortest_ripe" "shortest_ripe" st_shortest_ripe fa fd) : Binds K fd ["left", "place"] [] := F.binds fun _ _ _ _ _ _ us hl => match us, hl with | [_, _], _ => rfl
theorem bn_shrunk {K : PySem.W.Frag} {fa : Addr} {fd : FuncData} (F : Fun K "shrunk" "shrunk" st_shrunk fa fd) : Binds K fd ["left", "place"] [] := F.binds fun _ _ _ _ _ _ us hl => match us, hl with | [_, _], _ => rfl
theorem bn_stones_of {K : PySem.W.Frag} {fa : Addr} {fd : FuncData} (F : Fun K "stones_of" "stones_of" st_stones_of fa fd) : Binds K fd ["left"] [] := F.binds fun _ _ _ _ _ _ us hl => match us, hl with | [_], _ => rfl
theorem bn_look_niches {K : PySem.W.Frag} {fa : Addr} {fd : FuncData} (F : Fun K "look_niches" "look_niches" st_look_niches fa fd) : Binds K fd ["niches"] [] := F.binds fun _ _ _ _ _ _ us hl => match us, hl with | [_], _ => rfl
theorem bn_look_sizes {K : PySem.W.Frag} {fa : Addr} {fd : FuncData} (F : Fun K "look_sizes" "look_sizes" st_look_sizes fa fd) : Binds K fd ["sizes"] [] := F.binds fun _ _ _ _ _ _ us hl => match us, hl with | [_], _ => rfl
theorem bn_room {K : PySem.W.Frag} {fa : Addr} {fd : FuncData} (F : Fun K "room" "room" st_room fa fd) : Binds K fd ["niches", "sizes", "size"] [] := F.binds fun _ _ _ _ _ _ us hl => match us, hl with | [_, _, _], _ => rfl
theorem bn_chosen {K : PySem.W.Frag} {fa : Addr} {fd : FuncData} (F : Fun K "chosen" "chosen" st_chosen fa fd) : Binds K fd ["many", "things"] [] := F.binds fun _ _ _ _ _ _ us hl => match us, hl with | [_, _], _ => rfl
theorem bn_groups {K : PySem.W.Frag} {fa : Addr} {fd : FuncData} (F : Fun K "groups" "groups" st_groups fa fd) : Binds K fd ["niches", "sizes"] [] := F.binds fun _ _ _ _ _ _ us hl => match us, hl with | [_, _], _ => rfl
theorem bn_product {K : PySem.W.Frag} {fa : Addr} {fd : FuncData} (F : Fun K "product" "product" st_product fa fd) : Binds K fd ["found"] [] := F.binds fun _ _ _ _ _ _ us hl => match us, hl with | [_], _ => rfl
theorem bn_offsets_numbered {K : PySem.W.Frag} {fa : Addr} {fd : FuncData} (F : Fun K "offsets_numbered" "offsets_numbered" st_offsets_numbered fa fd) : Binds K fd ["many", "most", "number"] [] := F.binds fun _ _ _ _ _ _ us hl => match us, hl with | [_, _, _], _ => rfl
theorem bn_row_numbered {K : PySem.W.Frag} {fa : Addr} {fd : FuncData} (F : Fun K "row_numbered" "row_numbered" st_row_numbered fa fd) : Binds K fd ["niches", "sizes", "number"] [] := F.binds fun _ _ _ _ _ _ us hl => match us, hl with | [_, _, _], _ => rfl
theorem bn_number_among {K : PySem.W.Frag} {fa : Addr} {fd : FuncData} (F : Fun K "number_among" "number_among" st_number_among fa fd) : Binds K fd ["offsets", "most"] [] := F.binds fun _ _ _ _ _ _ us hl => match us, hl with | [_, _], _ => rfl
theorem bn_is_sober {K : PySem.W.Frag} {fa : Addr} {fd : FuncData} (F : Fun K "is_sober" "is_sober" st_is_sober fa fd) : Binds K fd ["niches", "row"] [] := F.binds fun _ _ _ _ _ _ us hl => match us, hl with | [_, _], _ => rfl
theorem bn_number_of {K : PySem.W.Frag} {fa : Addr} {fd : FuncData} (F : Fun K "number_of" "number_of" st_number_of fa fd) : Binds K fd ["niches", "row"] [] := F.binds fun _ _ _ _ _ _ us hl => match us, hl with | [_, _], _ => rfl
theorem bn_numbers_L {K : PySem.W.Frag} {fa : Addr} {fd : FuncData} (F : Fun K "_law_numbers" "_law_numbers" st_numbers_L fa fd) : Binds K fd ["_law_script", "_law_many"] [] := F.binds fun _ _ _ _ _ _ us hl => match us, hl with | [_, _], _ => rfl
theorem bn_same_L {K : PySem.W.Frag} {fa : Addr} {fd : FuncData} (F : Fun K "_law_same" "_law_same" st_same_L fa fd) : Binds K fd ["_law_found", "_law_due"] [] := F.binds fun _ _ _ _ _ _ us hl => match us, hl with | [_, _], _ => rfl
theorem bn_lesser_L {K : PySem.W.Frag} {fa : Addr} {fd : FuncData} (F : Fun K "_law_lesser" "_law_lesser" st_lesser_L fa fd) : Binds K fd ["_law_found", "_law_size"] [] := F.binds fun _ _ _ _ _ _ us hl => match us, hl with | [_, _], _ => rfl
theorem bn_list_L {K : PySem.W.Frag} {fa : Addr} {fd : FuncData} (F : Fun K "_law_list" "_law_list" st_list_L fa fd) : Binds K fd ["_law_row"] [] := F.binds fun _ _ _ _ _ _ us hl => match us, hl with | [_], _ => rfl
theorem bn_sober_L {K : PySem.W.Frag} {fa : Addr} {fd : FuncData} (F : Fun K "_law_sober" "_law_sober" st_sober_L fa fd) : Binds K fd ["_law_niches", "_law_row"] [] := F.binds fun _ _ _ _ _ _ us hl => match us, hl with | [_, _], _ => rfl
theorem bn_space_L {K : PySem.W.Frag} {fa : Addr} {fd : FuncData} (F : Fun K "_law_space" "_law_space" st_space_L fa fd) : Binds K fd ["_law_niches", "_law_sizes", "_law_size"] [] := F.binds fun _ _ _ _ _ _ us hl => match us, hl with | [_, _, _], _ => rfl
theorem bn_choose_L {K : PySem.W.Frag} {fa : Addr} {fd : FuncData} (F : Fun K "_law_choose" "_law_choose" st_choose_L fa fd) : Binds K fd ["_law_many", "_law_things"] [] := F.binds fun _ _ _ _ _ _ us hl => match us, hl with | [_, _], _ => rfl
theorem bn_count_L {K : PySem.W.Frag} {fa : Addr} {fd : FuncData} (F : Fun K "_law_count" "_law_count" st_count_L fa fd) : Binds K fd ["_law_niches", "_law_sizes"] [] := F.binds fun _ _ _ _ _ _ us hl => match us, hl with | [_, _], _ => rfl
theorem bl_mk {K : PySem.W.Frag} {h : Heap} {mg : Str → Option Value} (X : K.In h) (G : h.Ns mainGlobals mg) (z_len : PySem.W.nsIn K mainGlobals "len" = some none) (z_range : PySem.W.nsIn K mainGlobals "range" = some none) (z_min : PySem.W.nsIn K mainGlobals "min" = some none) (z_max : PySem.W.nsIn K mainGlobals "max" = some none) (z_abs : PySem.W.nsIn K mainGlobals "abs" = some none) (z_sum : PySem.W.nsIn K mainGlobals "sum" = some none) (z_all : PySem.W.nsIn K mainGlobals "all" = some none) (z_any : PySem.W.nsIn K mainGlobals "any" = some none) (z_sorted : PySem.W.nsIn K mainGlobals "sorted" = some none) (z_list : PySem.W.nsIn K mainGlobals "list" = some none) (z_tuple : PySem.W.nsIn K mainGlobals "tuple" = some none) (z_int : PySem.W.nsIn K mainGlobals "int" = some none) (z_bool : PySem.W.nsIn K mainGlobals "bool" = some none) (z_str : PySem.W.nsIn K mainGlobals "str" = some none) (z_isinstance : PySem.W.nsIn K mainGlobals "isinstance" = some none) (z_zip : PySem.W.nsIn K mainGlobals "zip" = some none) (z_enumerate : PySem.W.nsIn K mainGlobals "enumerate" = some none) (z_reversed : PySem.W.nsIn K mainGlobals "reversed" = some none) (z_set : PySem.W.nsIn K mainGlobals "set" = some none) (z_dict : PySem.W.nsIn K mainGlobals "dict" = some none) : Bl mg := ⟨PySem.W.mg_none_of X G z_len, PySem.W.mg_none_of X G z_range, PySem.W.mg_none_of X G z_min, PySem.W.mg_none_of X G z_max, PySem.W.mg_none_of X G z_abs, PySem.W.mg_none_of X G z_sum, PySem.W.mg_none_of X G z_all, PySem.W.mg_none_of X G z_any, PySem.W.mg_none_of X G z_sorted, PySem.W.mg_none_of X G z_list, PySem.W.mg_none_of X G z_tuple, PySem.W.mg_none_of X G z_int, PySem.W.mg_none_of X G z_bool, PySem.W.mg_none_of X G z_str, PySem.W.mg_none_of X G z_isinstance, PySem.W.mg_none_of X G z_zip, PySem.W.mg_none_of X G z_enumerate, PySem.W.mg_none_of X G z_reversed, PySem.W.mg_none_of X G z_set, PySem.W.mg_none_of X G z_dict⟩
open ModeZ in
theorem all_mk {l : PySem.W.OpenLaw} {w : World} {K : PySem.W.Frag} {h : Heap} {mg : Str → Option Value} {fa : Addr} {t_MOST_NICHES : Tok} {t_MOST_STONES : Tok} {a_BadRow : Addr} {i_BadRow : Addr} {nm_BadRow q_BadRow : Str} {N_BadRow : Addr} {bs_BadRow bm_BadRow sub_BadRow : List Value} {sn_BadRow : List Str} {ab_BadRow : Bool} {col_BadRow : Option Bool} {dd_BadRow : Option Addr} {m0_BadRow m1_BadRow m2_BadRow m3_BadRow m5_BadRow : Option Value} {oc_BadRow kV_BadRow dc_BadRow pm_BadRow cd_BadRow ct_BadRow : Value} {od_BadRow an_BadRow : Option Addr} {sl_BadRow : Array (Option Value)} {a_BadSizes : Addr} {i_BadSizes : Addr} {nm_BadSizes q_BadSizes : Str} {N_BadSizes : Addr} {bs_BadSizes bm_BadSizes sub_BadSizes : List Value} {sn_BadSizes : List Str} {ab_BadSizes : Bool} {col_BadSizes : Option Bool} {dd_BadSizes : Option Addr} {m0_BadSizes m1_BadSizes m2_BadSizes m3_BadSizes m5_BadSizes : Option Value} {oc_BadSizes kV_BadSizes dc_BadSizes pm_BadSizes cd_BadSizes ct_BadSizes : Value} {od_BadSizes an_BadSizes : Option Addr} {sl_BadSizes : Array (Option Value)} {a_BadNumber : Addr} {a_TooMany : Addr} (X : K.In h) (G : h.Ns mainGlobals mg) (hfa : mg "law" = some (.ref fa)) {c BB : Addr} (hTab : ∀ B ∈ [BB], h.get? B = some (PySem.W.tabObj #[])) (C_MOST_NICHES : PySem.W.nsIn K mainGlobals "MOST_NICHES" = some (some (.int 200 t_MOST_NICHES))) (C_MOST_STONES : PySem.W.nsIn K mainGlobals "MOST_STONES" = some (some (.int 60 t_MOST_STONES))) (g_BadRow : PySem.W.nsIn K mainGlobals "BadRow" = some (some (.ref a_BadRow))) (k_BadRow : PySem.W.keepIn K (.ref a_BadRow) = true) (s_BadRow : PySem.W.subIn K (.ref a_BadRow) (.type "BaseException") = some true) (t_BadRow : PySem.W.typeIn K (.ref a_BadRow) = some (.type "type")) (l_BadRow : K.lookup a_BadRow = some (excClassObj nm_BadRow q_BadRow a_BadRow N_BadRow bs_BadRow bm_BadRow true sn_BadRow sub_BadRow ab_BadRow col_BadRow dd_BadRow m0_BadRow m1_BadRow m2_BadRow m3_BadRow m5_BadRow "ValueError.__new__")) (r_BadRow : PySem.HandSPX.refsVE bm_BadRow = true) (sa_BadRow : PySem.W.findIn K (.ref a_BadRow) "__setattr__" = some (some (.builtin "object.__setattr__"))) (no_BadRow : PySem.W.findIn K (.ref a_BadRow) "at" = some none) (jn_BadRow : PySem.W.findIn K (.ref a_BadRow) "__init__" = some (some (.ref i_BadRow))) (ti_BadRow : PySem.W.typeIn K (.ref i_BadRow) = some (.type "function")) (li_BadRow : K.lookup i_BadRow = some ⟨oc_BadRow, od_BadRow, .func (PySem.W.fnOf "__init__" "BadRow.__init__" (defArgs in_BadRow) (defBody in_BadRow) (defScope in_BadRow) .none kV_BadRow dc_BadRow pm_BadRow an_BadRow cd_BadRow ct_BadRow), sl_BadRow⟩) (ci_BadRow : PySem.W.codeIn K cd_BadRow "BadRow.__init__" = true) (ki_BadRow : PySem.W.keepIn K (.ref i_BadRow) = true) (g_BadSizes : PySem.W.nsIn K mainGlobals "BadSizes" = some (some (.ref a_BadSizes))) (k_BadSizes : PySem.W.keepIn K (.ref a_BadSizes) = true) (s_BadSizes : PySem.W.subIn K (.ref a_BadSizes) (.type "BaseException") = some true) (t_BadSizes : PySem.W.typeIn K (.ref a_BadSizes) = some (.type "type")) (l_BadSizes : K.lookup a_BadSizes = some (excClassObj nm_BadSizes q_BadSizes a_BadSizes N_BadSizes bs_BadSizes bm_BadSizes true sn_BadSizes sub_BadSizes ab_BadSizes col_BadSizes dd_BadSizes m0_BadSizes m1_BadSizes m2_BadSizes m3_BadSizes m5_BadSizes "ValueError.__new__")) (r_BadSizes : PySem.HandSPX.refsVE bm_BadSizes = true) (sa_BadSizes : PySem.W.findIn K (.ref a_BadSizes) "__setattr__" = some (some (.builtin "object.__setattr__"))) (no_BadSizes : PySem.W.findIn K (.ref a_BadSizes) "at" = some none) (jn_BadSizes : PySem.W.findIn K (.ref a_BadSizes) "__init__" = some (some (.ref i_BadSizes))) (ti_BadSizes : PySem.W.typeIn K (.ref i_BadSizes) = some (.type "function")) (li_BadSizes : K.lookup i_BadSizes = some ⟨oc_BadSizes, od_BadSizes, .func (PySem.W.fnOf "__init__" "BadSizes.__init__" (defArgs in_BadSizes) (defBody in_BadSizes) (defScope in_BadSizes) .none kV_BadSizes dc_BadSizes pm_BadSizes an_BadSizes cd_BadSizes ct_BadSizes), sl_BadSizes⟩) (ci_BadSizes : PySem.W.codeIn K cd_BadSizes "BadSizes.__init__" = true) (ki_BadSizes : PySem.W.keepIn K (.ref i_BadSizes) = true) (g_BadNumber : PySem.W.nsIn K mainGlobals "BadNumber" = some (some (.ref a_BadNumber))) (x_BadNumber : PySem.W.excIn K a_BadNumber [.type "ValueError", .type "Exception", .type "BaseException", .type "object"] "ValueError.__new__" = true) (k_BadNumber : PySem.W.keepIn K (.ref a_BadNumber) = true) (s_BadNumber : PySem.W.subIn K (.ref a_BadNumber) (.type "BaseException") = some true) (t_BadNumber : PySem.W.typeIn K (.ref a_BadNumber) = some (.type "type")) (g_TooMany : PySem.W.nsIn K mainGlobals "TooMany" = some (some (.ref a_TooMany))) (x_TooMany : PySem.W.excIn K a_TooMany [.type "ValueError", .type "Exception", .type "BaseException", .type "object"] "ValueError.__new__" = true) (k_TooMany : PySem.W.keepIn K (.ref a_TooMany) = true) (s_TooMany : PySem.W.subIn K (.ref a_TooMany) (.type "BaseException") = some true) (t_TooMany : PySem.W.typeIn K (.ref a_TooMany) = some (.type "type")) (A_look_row : AtF K mg "look_row" "look_row" st_look_row) (A_share : AtF K mg "share" "share" st_share) (A_mark : AtF K mg "mark" "mark" st_mark) (A_longest_ripe : AtF K mg "longest_ripe" "longest_ripe" st_longest_ripe) (A_grown : AtF K mg "grown" "grown" st_grown) (A_list_of : AtF K mg "list_of" "list_of" st_list_of) (A_next_place : AtF K mg "next_place" "next_place" st_next_place) (A_shortest_ripe : AtF K mg "shortest_ripe" "shortest_ripe" st_shortest_ripe) (A_shrunk : AtF K mg "shrunk" "shrunk" st_shrunk) (A_stones_of : AtF K mg "stones_of" "stones_of" st_stones_of) (A_look_niches : AtF K mg "look_niches" "look_niches" st_look_niches) (A_look_sizes : AtF K mg "look_sizes" "look_sizes" st_look_sizes) (A_room : AtF K mg "room" "room" st_room) (A_chosen : AtF K mg "chosen" "chosen" st_chosen) (A_groups : AtF K mg "groups" "groups" st_groups) (A_product : AtF K mg "product" "product" st_product) (A_offsets_numbered : AtF K mg "offsets_numbered" "offsets_numbered" st_offsets_numbered) (A_row_numbered : AtF K mg "row_numbered" "row_numbered" st_row_numbered) (A_number_among : AtF K mg "number_among" "number_among" st_number_among) (A_is_sober : AtF K mg "is_sober" "is_sober" st_is_sober) (A_number_of : AtF K mg "number_of" "number_of" st_number_of) (A_numbers_L : AtF K mg "_law_numbers" "_law_numbers" st_numbers_L) (A_same_L : AtF K mg "_law_same" "_law_same" st_same_L) (A_lesser_L : AtF K mg "_law_lesser" "_law_lesser" st_lesser_L) (A_list_L : AtF K mg "_law_list" "_law_list" st_list_L) (A_sober_L : AtF K mg "_law_sober" "_law_sober" st_sober_L) (A_space_L : AtF K mg "_law_space" "_law_space" st_space_L) (A_choose_L : AtF K mg "_law_choose" "_law_choose" st_choose_L) (A_count_L : AtF K mg "_law_count" "_law_count" st_count_L) (A_law : AtL K mg "law" st_law c BB) (z_len : PySem.W.nsIn K mainGlobals "len" = some none) (z_range : PySem.W.nsIn K mainGlobals "range" = some none) (z_min : PySem.W.nsIn K mainGlobals "min" = some none) (z_max : PySem.W.nsIn K mainGlobals "max" = some none) (z_abs : PySem.W.nsIn K mainGlobals "abs" = some none) (z_sum : PySem.W.nsIn K mainGlobals "sum" = some none) (z_all : PySem.W.nsIn K mainGlobals "all" = some none) (z_any : PySem.W.nsIn K mainGlobals "any" = some none) (z_sorted : PySem.W.nsIn K mainGlobals "sorted" = some none) (z_list : PySem.W.nsIn K mainGlobals "list" = some none) (z_tuple : PySem.W.nsIn K mainGlobals "tuple" = some none) (z_int : PySem.W.nsIn K mainGlobals "int" = some none) (z_bool : PySem.W.nsIn K mainGlobals "bool" = some none) (z_str : PySem.W.nsIn K mainGlobals "str" = some none) (z_isinstance : PySem.W.nsIn K mainGlobals "isinstance" = some none) (z_zip : PySem.W.nsIn K mainGlobals "zip" = some none) (z_enumerate : PySem.W.nsIn K mainGlobals "enumerate" = some none) (z_reversed : PySem.W.nsIn K mainGlobals "reversed" = some none) (z_set : PySem.W.nsIn K mainGlobals "set" = some none) (z_dict : PySem.W.nsIn K mainGlobals "dict" = some none) :
    ∃ (fd : FuncData) (c B : Addr), h.get? B = some { cls := .none, data := .fields #[] } ∧ K.lookup B = none ∧ PySem.W.CodeHd h c B ∧ (∀ (s : Shared) (v : Value), BindsTo s fd ⟨[v], []⟩ [("_law_script", v)]) ∧ ∀ base : Heap, K.In base → base.Ns mainGlobals mg → LamX.TabB base mg c B → FnOk l.prog w K mg base (L2.CX l.prog w) 65 fa fd ["_law_script"] (spLawT K B) := by
  obtain ⟨fa_look_row, fd_look_row, F_look_row, g_look_row⟩ := A_look_row.ex
  obtain ⟨fa_share, fd_share, F_share, g_share⟩ := A_share.ex
  obtain ⟨fa_mark, fd_mark, F_mark, g_mark⟩ := A_mark.ex
  obtain ⟨fa_longest_ripe, fd_longest_ripe, F_longest_ripe, g_longest_ripe⟩ := A_longest_ripe.ex
  obtain ⟨fa_grown, fd_grown, F_grown, g_grown⟩ := A_grown.ex
  obtain ⟨fa_list_of, fd_list_of, F_list_of, g_list_of⟩ := A_list_of.ex
  obtain ⟨fa_next_place, fd_next_place, F_next_place, g_next_place⟩ := A_next_place.ex
  obtain ⟨fa_shortest_ripe, fd_shortest_ripe, F_shortest_ripe, g_shortest_ripe⟩ := A_shortest_ripe.ex
  obtain ⟨fa_shrunk, fd_shrunk, F_shrunk, g_shrunk⟩ := A_shrunk.ex
  obtain ⟨fa_stones_of, fd_stones_of, F_stones_of, g_stones_of⟩ := A_stones_of.ex
  obtain ⟨fa_look_niches, fd_look_niches, F_look_niches, g_look_niches⟩ := A_look_niches.ex
  obtain ⟨fa_look_sizes, fd_look_sizes, F_look_sizes, g_look_sizes⟩ := A_look_sizes.ex
  obtain ⟨fa_room, fd_room, F_room, g_room⟩ := A_room.ex
  obtain ⟨fa_chosen, fd_chosen, F_chosen, g_chosen⟩ := A_chosen.ex
  obtain ⟨fa_groups, fd_groups, F_groups, g_groups⟩ := A_groups.ex
  obtain ⟨fa_product, fd_product, F_product, g_product⟩ := A_product.ex
  obtain ⟨fa_offsets_numbered, fd_offsets_numbered, F_offsets_numbered, g_offsets_numbered⟩ := A_offsets_numbered.ex
  obtain ⟨fa_row_numbered, fd_row_numbered, F_row_numbered, g_row_numbered⟩ := A_row_numbered.ex
  obtain ⟨fa_number_among, fd_number_among, F_number_among, g_number_among⟩ := A_number_among.ex
  obtain ⟨fa_is_sober, fd_is_sober, F_is_sober, g_is_sober⟩ := A_is_sober.ex
  obtain ⟨fa_number_of, fd_number_of, F_number_of, g_number_of⟩ := A_number_of.ex
  obtain ⟨fa_numbers_L, fd_numbers_L, F_numbers_L, g_numbers_L⟩ := A_numbers_L.ex
  obtain ⟨fa_same_L, fd_same_L, F_same_L, g_same_L⟩ := A_same_L.ex
  obtain ⟨fa_lesser_L, fd_lesser_L, F_lesser_L, g_lesser_L⟩ := A_lesser_L.ex
  obtain ⟨fa_list_L, fd_list_L, F_list_L, g_list_L⟩ := A_list_L.ex
  obtain ⟨fa_sober_L, fd_sober_L, F_sober_L, g_sober_L⟩ := A_sober_L.ex
  obtain ⟨fa_space_L, fd_space_L, F_space_L, g_space_L⟩ := A_space_L.ex
  obtain ⟨fa_choose_L, fd_choose_L, F_choose_L, g_choose_L⟩ := A_choose_L.ex
  obtain ⟨fa_count_L, fd_count_L, F_count_L, g_count_L⟩ := A_count_L.ex
  obtain ⟨fa_law, oc, od, kV, doc, pm, an, ct, osl, g_law, lk, hcd⟩ := A_law.ex
  have e := hfa.symm.trans g_law
  cases e
  have B := bl_mk X G z_len z_range z_min z_max z_abs z_sum z_all z_any z_sorted z_list z_tuple z_int z_bool z_str z_isinstance z_zip z_enumerate z_reversed z_set z_dict
  refine ⟨PySem.W.fnOf "law" "law" (defArgs st_law) (defBody st_law) (defScope st_law) .none kV doc pm an (.ref c) ct, c, BB, hTab BB (List.mem_singleton.mpr rfl), A_law.no, PySem.W.codeHd_of_K X A_law.hd, fun s v => .of_eq rfl, fun base _ _ TB => ?_⟩
  let cl : Cl := ⟨fun n => List.lookup n [("BadRow", a_BadRow), ("BadSizes", a_BadSizes), ("BadNumber", a_BadNumber), ("TooMany", a_TooMany)], K, fun n => List.lookup n []⟩
  have hK : cl.K = K := rfl
  have C_MOST_NICHES := PySem.W.mg_of X G C_MOST_NICHES
  have C_MOST_STONES := PySem.W.mg_of X G C_MOST_STONES
  have FI_BadRow := fun_mk (st := in_BadRow) li_BadRow ci_BadRow ki_BadRow
  have X_BadRow : XAt l.prog w K mg base cl "BadRow" 1 := xat_mk (st := in_BadRow) ⟨⟨_, _, _, _, _, _, _, _, _, _, _, _, _, _, _, l_BadRow, r_BadRow⟩, sa_BadRow, s_BadRow, t_BadRow, k_BadRow⟩ rfl (PySem.W.mg_of X G g_BadRow) jn_BadRow ti_BadRow no_BadRow FI_BadRow isc_BadRow (FI_BadRow.binds fun _ _ _ _ _ _ us hl => match us, hl with | [_, _], _ => rfl) rfl (by first | exact Or.inl rfl | exact Or.inr (Or.inl rfl) | exact Or.inr (Or.inr rfl)) (by first | exact Or.inl rfl | exact Or.inr (Or.inl rfl) | exact Or.inr (Or.inr rfl)) (fun _ _ => rfl)
  have FI_BadSizes := fun_mk (st := in_BadSizes) li_BadSizes ci_BadSizes ki_BadSizes
  have X_BadSizes : XAt l.prog w K mg base cl "BadSizes" 1 := xat_mk (st := in_BadSizes) ⟨⟨_, _, _, _, _, _, _, _, _, _, _, _, _, _, _, l_BadSizes, r_BadSizes⟩, sa_BadSizes, s_BadSizes, t_BadSizes, k_BadSizes⟩ rfl (PySem.W.mg_of X G g_BadSizes) jn_BadSizes ti_BadSizes no_BadSizes FI_BadSizes isc_BadSizes (FI_BadSizes.binds fun _ _ _ _ _ _ us hl => match us, hl with | [_, _], _ => rfl) rfl (by first | exact Or.inl rfl | exact Or.inr (Or.inl rfl) | exact Or.inr (Or.inr rfl)) (by first | exact Or.inl rfl | exact Or.inr (Or.inl rfl) | exact Or.inr (Or.inr rfl)) (fun _ _ => rfl)
  have X_BadNumber : XPlain K mg cl "BadNumber" := ⟨a_BadNumber, rfl, PySem.W.mg_of X G g_BadNumber, x_BadNumber, k_BadNumber, s_BadNumber, t_BadNumber⟩
  have X_TooMany : XPlain K mg cl "TooMany" := ⟨a_TooMany, rfl, PySem.W.mg_of X G g_TooMany, x_TooMany, k_TooMany, s_TooMany, t_TooMany⟩
  have P_look_row := ok_look_row (P := l.prog) (w := w) (base := base) (cl := cl) B hK F_look_row g_look_row (bn_look_row F_look_row) C_MOST_STONES X_BadRow X_TooMany
  have P_share := ok_share (P := l.prog) (w := w) (base := base) (cl := cl) B hK F_share g_share (bn_share F_share) 
  have P_mark := ok_mark (P := l.prog) (w := w) (base := base) (cl := cl) B hK F_mark g_mark (bn_mark F_mark) P_share
  have P_longest_ripe := ok_longest_ripe (P := l.prog) (w := w) (base := base) (cl := cl) B hK F_longest_ripe g_longest_ripe (bn_longest_ripe F_longest_ripe) P_mark
  have P_grown := ok_grown (P := l.prog) (w := w) (base := base) (cl := cl) B hK F_grown g_grown (bn_grown F_grown) P_longest_ripe P_mark P_share
  have P_list_of := ok_list_of (P := l.prog) (w := w) (base := base) (cl := cl) B hK F_list_of g_list_of (bn_list_of F_list_of) P_grown
  have P_next_place := ok_next_place (P := l.prog) (w := w) (base := base) (cl := cl) B hK F_next_place g_next_place (bn_next_place F_next_place) P_share
  have P_shortest_ripe := ok_shortest_ripe (P := l.prog) (w := w) (base := base) (cl := cl) B hK F_shortest_ripe g_shortest_ripe (bn_shortest_ripe F_shortest_ripe) P_mark
  have P_shrunk := ok_shrunk (P := l.prog) (w := w) (base := base) (cl := cl) B hK F_shrunk g_shrunk (bn_shrunk F_shrunk) P_shortest_ripe P_mark P_share
  have P_stones_of := ok_stones_of (P := l.prog) (w := w) (base := base) (cl := cl) B hK F_stones_of g_stones_of (bn_stones_of F_stones_of) P_next_place P_shrunk
  have P_look_niches := ok_look_niches (P := l.prog) (w := w) (base := base) (cl := cl) B hK F_look_niches g_look_niches (bn_look_niches F_look_niches) C_MOST_NICHES X_BadNumber
  have P_look_sizes := ok_look_sizes (P := l.prog) (w := w) (base := base) (cl := cl) B hK F_look_sizes g_look_sizes (bn_look_sizes F_look_sizes) C_MOST_STONES X_BadSizes X_TooMany
  have P_room := ok_room (P := l.prog) (w := w) (base := base) (cl := cl) B hK F_room g_room (bn_room F_room) 
  have P_chosen := ok_chosen (P := l.prog) (w := w) (base := base) (cl := cl) B hK F_chosen g_chosen (bn_chosen F_chosen) 
  have P_groups := ok_groups (P := l.prog) (w := w) (base := base) (cl := cl) B hK F_groups g_groups (bn_groups F_groups) P_room
  have P_product := ok_product (P := l.prog) (w := w) (base := base) (cl := cl) B hK F_product g_product (bn_product F_product) P_chosen
  have P_offsets_numbered := ok_offsets_numbered (P := l.prog) (w := w) (base := base) (cl := cl) B hK F_offsets_numbered g_offsets_numbered (bn_offsets_numbered F_offsets_numbered) P_chosen
  have P_row_numbered := ok_row_numbered (P := l.prog) (w := w) (base := base) (cl := cl) B hK F_row_numbered g_row_numbered (bn_row_numbered F_row_numbered) X_BadNumber P_look_niches P_look_sizes P_groups P_product P_offsets_numbered P_stones_of
  have P_number_among := ok_number_among (P := l.prog) (w := w) (base := base) (cl := cl) B hK F_number_among g_number_among (bn_number_among F_number_among) P_chosen
  have P_is_sober := ok_is_sober (P := l.prog) (w := w) (base := base) (cl := cl) B hK F_is_sober g_is_sober (bn_is_sober F_is_sober) 
  have P_number_of := ok_number_of (P := l.prog) (w := w) (base := base) (cl := cl) B hK F_number_of g_number_of (bn_number_of F_number_of) X_BadNumber P_look_row P_look_niches P_is_sober P_list_of P_groups P_chosen P_number_among
  have P_numbers_L := ok_numbers_L (P := l.prog) (w := w) (base := base) (cl := cl) B hK F_numbers_L g_numbers_L (bn_numbers_L F_numbers_L) 
  have P_same_L := ok_same_L (P := l.prog) (w := w) (base := base) (cl := cl) B hK F_same_L g_same_L (bn_same_L F_same_L)  8
  have P_lesser_L := ok_lesser_L (P := l.prog) (w := w) (base := base) (cl := cl) B hK F_lesser_L g_lesser_L (bn_lesser_L F_lesser_L) 
  have P_list_L := ok_list_L (P := l.prog) (w := w) (base := base) (cl := cl) B hK F_list_L g_list_L (bn_list_L F_list_L) P_lesser_L
  have P_sober_L := ok_sober_L (P := l.prog) (w := w) (base := base) (cl := cl) B hK F_sober_L g_sober_L (bn_sober_L F_sober_L) 
  have P_space_L := ok_space_L (P := l.prog) (w := w) (base := base) (cl := cl) B hK F_space_L g_space_L (bn_space_L F_space_L) 
  have P_choose_L := ok_choose_L (P := l.prog) (w := w) (base := base) (cl := cl) B hK F_choose_L g_choose_L (bn_choose_L F_choose_L) 
  have P_count_L := ok_count_L (P := l.prog) (w := w) (base := base) (cl := cl) B hK F_count_L g_count_L (bn_count_L F_count_L) P_space_L P_choose_L
  exact law_endT hK (ok_law (P := l.prog) (w := w) (base := base) B hK lk hcd TB P_numbers_L P_count_L P_row_numbered P_number_of P_same_L P_sober_L P_list_L) CW.law_ok (by decide)
end CW
end
def CW.looseN : List PySem.Str := ([PySem.Str.ofString "CreelError", PySem.Str.ofString "TooMany", PySem.Str.ofString "BadNumber", PySem.Str.ofString "BadRow", PySem.Str.ofString "BadSizes", PySem.Str.ofString "MOST_STONES", PySem.Str.ofString "look_row", PySem.Str.ofString "share", PySem.Str.ofString "mark", PySem.Str.ofString "longest_ripe", PySem.Str.ofString "grown", PySem.Str.ofString "list_of", PySem.Str.ofString "next_place", PySem.Str.ofString "shortest_ripe", PySem.Str.ofString "shrunk", PySem.Str.ofString "stones_of", PySem.Str.ofString "MOST_NICHES", PySem.Str.ofString "look_niches", PySem.Str.ofString "look_sizes", PySem.Str.ofString "room"] : List PySem.Str) ++ ([PySem.Str.ofString "chosen", PySem.Str.ofString "groups", PySem.Str.ofString "product", PySem.Str.ofString "offsets_numbered", PySem.Str.ofString "row_numbered", PySem.Str.ofString "number_among", PySem.Str.ofString "is_sober", PySem.Str.ofString "number_of", PySem.Str.ofString "_law_numbers", PySem.Str.ofString "_law_same", PySem.Str.ofString "_law_lesser", PySem.Str.ofString "_law_list", PySem.Str.ofString "_law_sober", PySem.Str.ofString "_law_space", PySem.Str.ofString "_law_choose", PySem.Str.ofString "_law_count"] : List PySem.Str)
set_option hygiene false in
local macro_rules
  | `(tactic| o_head ($f $k $a $e)) => `(tactic| refine HandSHeadRun.head_any (r := PySem.W.OpenLaw.row PySem.Challenge.rw_creelway_k38_great_niches_numbered) (q := (PySem.W.view (PySem.W.OpenLaw.row PySem.Challenge.rw_creelway_k38_great_niches_numbered).prog [41])) (H := $f $k $a $e) (ob := fun s => List.map (HandSHeadRun.getT s) $a) (M := 30000) (loose := CW.looseN) (d := HandSHeadRun.topDef (PySem.W.OpenLaw.row PySem.Challenge.rw_creelway_k38_great_niches_numbered).prog 41) (kwd := []) (fun s => List.map_congr_left fun b _ => HandSHeadRun.getT_eq s b) (by kernel_rfl) (fun s => by kernel_rfl) (fun w => by intro os; kernel_rfl) (by kernel_rfl) (by kernel_rfl) (by kernel_rfl) (by rfl) (by first | assumption | decide +kernel) (by decide +kernel) ⟨rfl, rfl, rfl, rfl, rfl, by decide +kernel⟩ ?hw ?hc)
  | `(tactic| o_head ($f $k $a $e $t)) => `(tactic| refine HandSHeadRun.head_any (r := PySem.W.OpenLaw.row PySem.Challenge.rw_creelway_k38_great_niches_numbered) (q := (PySem.W.view (PySem.W.OpenLaw.row PySem.Challenge.rw_creelway_k38_great_niches_numbered).prog [41])) (H := $f $k $a $e $t) (ob := fun s => (List.map (HandSHeadRun.getT s) $a, List.map (HandSHeadRun.getT s) $t)) (M := 30000) (loose := CW.looseN) (d := HandSHeadRun.topDef (PySem.W.OpenLaw.row PySem.Challenge.rw_creelway_k38_great_niches_numbered).prog 41) (kwd := []) (fun s => Prod.ext (List.map_congr_left fun b _ => HandSHeadRun.getT_eq s b) (List.map_congr_left fun b _ => HandSHeadRun.getT_eq s b)) (by kernel_rfl) (fun s => by kernel_rfl) (fun w => by intro os; kernel_rfl) (by kernel_rfl) (by kernel_rfl) (by kernel_rfl) (by rfl) (by first | assumption | decide +kernel) (by decide +kernel) ⟨rfl, rfl, rfl, rfl, rfl, by decide +kernel⟩ ?hw ?hc)
open PySem PySem.W PyProof.Rows
set_option maxRecDepth 100000 in
set_option maxHeartbeats 0 in
theorem PySem.Challenge.cw_creelway_k38_great_niches_numbered_holds : PySem.Challenge.rw_creelway_k38_great_niches_numbered.Holds := by
  w_on; o_law; k_head; (case hw => w_witness2)
  k_fill
  refine VL.law_walkT (l := PySem.Challenge.rw_creelway_k38_great_niches_numbered) (x := "_law_script") rfl (by kernel_rfl) (fun w h Y => PySem.W.km_in_of Y) ?F
  case F =>
    intro w mg fa h Y KX G hmg0
    have hmg : mg ("law" : PySem.Str) = some (.ref fa) := by
      have e : (HandSHeadRun.topDef (PySem.W.OpenLaw.row PySem.Challenge.rw_creelway_k38_great_niches_numbered).prog 41).name = ("law" : PySem.Str) := by kernel_rfl
      rw [← e]
      exact hmg0
    refine' CW.all_mk KX G hmg (PySem.W.km_tabs_of Y) ?c_MOST_NICHES ?c_MOST_STONES ?g_BadRow ?k_BadRow ?s_BadRow ?t_BadRow ?l_BadRow ?r_BadRow ?sa_BadRow ?no_BadRow ?jn_BadRow ?ti_BadRow ?li_BadRow ?ci_BadRow ?ki_BadRow ?g_BadSizes ?k_BadSizes ?s_BadSizes ?t_BadSizes ?l_BadSizes ?r_BadSizes ?sa_BadSizes ?no_BadSizes ?jn_BadSizes ?ti_BadSizes ?li_BadSizes ?ci_BadSizes ?ki_BadSizes ?g_BadNumber ?x_BadNumber ?k_BadNumber ?s_BadNumber ?t_BadNumber ?g_TooMany ?x_TooMany ?k_TooMany ?s_TooMany ?t_TooMany ?a_look_row ?a_share ?a_mark ?a_longest_ripe ?a_grown ?a_list_of ?a_next_place ?a_shortest_ripe ?a_shrunk ?a_stones_of ?a_look_niches ?a_look_sizes ?a_room ?a_chosen ?a_groups ?a_product ?a_offsets_numbered ?a_row_numbered ?a_number_among ?a_is_sober ?a_number_of ?a_numbers_L ?a_same_L ?a_lesser_L ?a_list_L ?a_sober_L ?a_space_L ?a_choose_L ?a_count_L ?a_law ?z_len ?z_range ?z_min ?z_max ?z_abs ?z_sum ?z_all ?z_any ?z_sorted ?z_list ?z_tuple ?z_int ?z_bool ?z_str ?z_isinstance ?z_zip ?z_enumerate ?z_reversed ?z_set ?z_dict
    (case c_MOST_NICHES => k_is)
    (case c_MOST_STONES => k_is)
    (case g_BadRow => k_is)
    (case k_BadRow => k_is)
    (case s_BadRow => k_is)
    (case t_BadRow => k_is)
    (case l_BadRow => k_is)
    (case r_BadRow => decide +kernel)
    (case sa_BadRow => k_is)
    (case no_BadRow => k_is)
    (case jn_BadRow => k_is)
    (case ti_BadRow => k_is)
    (case li_BadRow => k_is)
    (case ci_BadRow => k_is)
    (case ki_BadRow => k_is)
    (case g_BadSizes => k_is)
    (case k_BadSizes => k_is)
    (case s_BadSizes => k_is)
    (case t_BadSizes => k_is)
    (case l_BadSizes => k_is)
    (case r_BadSizes => decide +kernel)
    (case sa_BadSizes => k_is)
    (case no_BadSizes => k_is)
    (case jn_BadSizes => k_is)
    (case ti_BadSizes => k_is)
    (case li_BadSizes => k_is)
    (case ci_BadSizes => k_is)
    (case ki_BadSizes => k_is)
    (case g_BadNumber => k_is)
    (case x_BadNumber => k_exc)
    (case k_BadNumber => k_is)
    (case s_BadNumber => k_is)
    (case t_BadNumber => k_is)
    (case g_TooMany => k_is)
    (case x_TooMany => k_exc)
    (case k_TooMany => k_is)
    (case s_TooMany => k_is)
    (case t_TooMany => k_is)
    (case a_look_row => refine' VL.at_mk KX G ?b1 ?b2 ?b3 ?b4; (case b1 => k_is); (case b2 => k_is); (case b3 => k_is); (case b4 => k_is))
    (case a_share => refine' VL.at_mk KX G ?b1 ?b2 ?b3 ?b4; (case b1 => k_is); (case b2 => k_is); (case b3 => k_is); (case b4 => k_is))
    (case a_mark => refine' VL.at_mk KX G ?b1 ?b2 ?b3 ?b4; (case b1 => k_is); (case b2 => k_is); (case b3 => k_is); (case b4 => k_is))
    (case a_longest_ripe => refine' VL.at_mk KX G ?b1 ?b2 ?b3 ?b4; (case b1 => k_is); (case b2 => k_is); (case b3 => k_is); (case b4 => k_is))
    (case a_grown => refine' VL.at_mk KX G ?b1 ?b2 ?b3 ?b4; (case b1 => k_is); (case b2 => k_is); (case b3 => k_is); (case b4 => k_is))
    (case a_list_of => refine' VL.at_mk KX G ?b1 ?b2 ?b3 ?b4; (case b1 => k_is); (case b2 => k_is); (case b3 => k_is); (case b4 => k_is))
    (case a_next_place => refine' VL.at_mk KX G ?b1 ?b2 ?b3 ?b4; (case b1 => k_is); (case b2 => k_is); (case b3 => k_is); (case b4 => k_is))
    (case a_shortest_ripe => refine' VL.at_mk KX G ?b1 ?b2 ?b3 ?b4; (case b1 => k_is); (case b2 => k_is); (case b3 => k_is); (case b4 => k_is))
    (case a_shrunk => refine' VL.at_mk KX G ?b1 ?b2 ?b3 ?b4; (case b1 => k_is); (case b2 => k_is); (case b3 => k_is); (case b4 => k_is))
    (case a_stones_of => refine' VL.at_mk KX G ?b1 ?b2 ?b3 ?b4; (case b1 => k_is); (case b2 => k_is); (case b3 => k_is); (case b4 => k_is))
    (case a_look_niches => refine' VL.at_mk KX G ?b1 ?b2 ?b3 ?b4; (case b1 => k_is); (case b2 => k_is); (case b3 => k_is); (case b4 => k_is))
    (case a_look_sizes => refine' VL.at_mk KX G ?b1 ?b2 ?b3 ?b4; (case b1 => k_is); (case b2 => k_is); (case b3 => k_is); (case b4 => k_is))
    (case a_room => refine' VL.at_mk KX G ?b1 ?b2 ?b3 ?b4; (case b1 => k_is); (case b2 => k_is); (case b3 => k_is); (case b4 => k_is))
    (case a_chosen => refine' VL.at_mk KX G ?b1 ?b2 ?b3 ?b4; (case b1 => k_is); (case b2 => k_is); (case b3 => k_is); (case b4 => k_is))
    (case a_groups => refine' VL.at_mk KX G ?b1 ?b2 ?b3 ?b4; (case b1 => k_is); (case b2 => k_is); (case b3 => k_is); (case b4 => k_is))
    (case a_product => refine' VL.at_mk KX G ?b1 ?b2 ?b3 ?b4; (case b1 => k_is); (case b2 => k_is); (case b3 => k_is); (case b4 => k_is))
    (case a_offsets_numbered => refine' VL.at_mk KX G ?b1 ?b2 ?b3 ?b4; (case b1 => k_is); (case b2 => k_is); (case b3 => k_is); (case b4 => k_is))
    (case a_row_numbered => refine' VL.at_mk KX G ?b1 ?b2 ?b3 ?b4; (case b1 => k_is); (case b2 => k_is); (case b3 => k_is); (case b4 => k_is))
    (case a_number_among => refine' VL.at_mk KX G ?b1 ?b2 ?b3 ?b4; (case b1 => k_is); (case b2 => k_is); (case b3 => k_is); (case b4 => k_is))
    (case a_is_sober => refine' VL.at_mk KX G ?b1 ?b2 ?b3 ?b4; (case b1 => k_is); (case b2 => k_is); (case b3 => k_is); (case b4 => k_is))
    (case a_number_of => refine' VL.at_mk KX G ?b1 ?b2 ?b3 ?b4; (case b1 => k_is); (case b2 => k_is); (case b3 => k_is); (case b4 => k_is))
    (case a_numbers_L => refine' VL.at_mk KX G ?b1 ?b2 ?b3 ?b4; (case b1 => k_is); (case b2 => k_is); (case b3 => k_is); (case b4 => k_is))
    (case a_same_L => refine' VL.at_mk KX G ?b1 ?b2 ?b3 ?b4; (case b1 => k_is); (case b2 => k_is); (case b3 => k_is); (case b4 => k_is))
    (case a_lesser_L => refine' VL.at_mk KX G ?b1 ?b2 ?b3 ?b4; (case b1 => k_is); (case b2 => k_is); (case b3 => k_is); (case b4 => k_is))
    (case a_list_L => refine' VL.at_mk KX G ?b1 ?b2 ?b3 ?b4; (case b1 => k_is); (case b2 => k_is); (case b3 => k_is); (case b4 => k_is))
    (case a_sober_L => refine' VL.at_mk KX G ?b1 ?b2 ?b3 ?b4; (case b1 => k_is); (case b2 => k_is); (case b3 => k_is); (case b4 => k_is))
    (case a_space_L => refine' VL.at_mk KX G ?b1 ?b2 ?b3 ?b4; (case b1 => k_is); (case b2 => k_is); (case b3 => k_is); (case b4 => k_is))
    (case a_choose_L => refine' VL.at_mk KX G ?b1 ?b2 ?b3 ?b4; (case b1 => k_is); (case b2 => k_is); (case b3 => k_is); (case b4 => k_is))
    (case a_count_L => refine' VL.at_mk KX G ?b1 ?b2 ?b3 ?b4; (case b1 => k_is); (case b2 => k_is); (case b3 => k_is); (case b4 => k_is))
    (case a_law => refine' VL.atl_mk KX G ?b1 ?b2 ?b3 ?b4 ?b5; (case b1 => k_is); (case b2 => k_is); (case b3 => k_is); (case b4 => kernel_rfl); (case b5 => kernel_rfl))
    (case z_len => k_is)
    (case z_range => k_is)
    (case z_min => k_is)
    (case z_max => k_is)
    (case z_abs => k_is)
    (case z_sum => k_is)
    (case z_all => k_is)
    (case z_any => k_is)
    (case z_sorted => k_is)
    (case z_list => k_is)
    (case z_tuple => k_is)
    (case z_int => k_is)
    (case z_bool => k_is)
    (case z_str => k_is)
    (case z_isinstance => k_is)
    (case z_zip => k_is)
    (case z_enumerate => k_is)
    (case z_reversed => k_is)
    (case z_set => k_is)
    (case z_dict => k_is)
