import PyProof.Rows.All
import Wide.All
import OpenK.AllK
import Wide.FinOn
import HandS.Comp
import HandS.Exc
import HandS.WordsList
import HandS.Dict
import HandS.TryMany
import HandS.Lambda
import HandS.ExcField
import HandS.Wide
import HandS.TupAny
import HandS.Text
import HandS.WordsDict
import HandS.Iter
import PyProof.LongRange
import HandS.Style
import HandS.ExcInit
import HandS.WordsExc
import HandS.IsInst
import HandS.SortInts
import HandS.SortRule
import HandS.Deep
import HandS.SortKw
import KE.KMinBuiltin
import KE.DataFind
import HandS.EndTab
import KE.KExcIs
import HandS.SetFor
import HandS.Strs
import HandS.Conv
import HandS.More
import HandS.Zip
import KE.SortData
import KE.DataCmp
import HandS.RaiseMore
import HandS.FStr
import PyProof.ListRange
import HandS.RaiseFrom
import PySem.Challenge.RW_creelway_k43_whole_late_walks_are_walks
set_option Elab.async false
set_option linter.all false
set_option maxRecDepth 100000
set_option maxHeartbeats 4000000

namespace VL
open PySem PySem.Spec PyProof.Rows L2

/-! ### what stays: all but the tables of code objects, which only grow -/
def NT (o : HO) : Prop := ∀ ps, o ≠ .tbl ps
structure Same (H H' : Hp) : Prop where
  k : ∀ b o, H b = some o → NT o ∨ H' b = none → H' b = some o
theorem Same.at {H H' : Hp} (e : Same H H') (b : Addr) (o : HO) (h : H b = some o) (nt : NT o := by intro _ z; cases z) : H' b = some o := e.k b o h (.inl nt)
theorem Same.refl (H : Hp) : Same H H := ⟨fun _ _ h _ => h⟩
theorem Same.free {H H' : Hp} (e : Same H H') {l : Addr} (h : H' l = none) : H l = none := by
  cases q : H l with
  | none => rfl
  | some o =>
    have z := e.k l o q (.inr h)
    rw [h] at z
    cases z
/-- a dict that lies open, or locked -/
theorem Same.rd {H H' : Hp} (e : Same H H') {a : Addr} {xs : List (Key × V)} (h : Rd H a (.dK xs)) : Rd H' a (.dK xs) := by
  rcases h with h | ⟨o, h⟩
  · exact .inl (e.at _ _ h)
  · exact .inr ⟨o, e.at _ _ h⟩
theorem Same.trans {H H1 H2 : Hp} (a : Same H H1) (b : Same H1 H2) : Same H H2 := ⟨fun c o h nt => by
  rcases nt with nt | nt
  · exact b.k c o (a.k c o h (.inl nt)) (.inl nt)
  · have z := a.k c o h (.inr (b.free nt))
    rw [b.free nt] at z
    cases z⟩
theorem Same.of {H H' : Hp} (e : L2.Same H H') : Same H H' := ⟨fun b o h _ => e b o h⟩
theorem Same.seq {K : PySem.W.Frag} {H H' : Hp} {a : Addr} {xs : List V} (e : Same H H') (h : SqL K H a xs) : SqL K H' a xs := by
  rcases h with (h | ⟨o, h⟩) | h
  · exact .inl (.inl (e.at _ _ h))
  · exact .inl (.inr ⟨o, e.at _ _ h⟩)
  · exact .inr h
/-- the name of a law's lambda -/
def lamQ : Str := "law.<locals>.<lambda>"

/-! ### values as trees -/
inductive D where
  | non
  | bl (b : Bool)
  | int (i : Int)
  | str (x : Str)
  | lst (xs : List D)
  | tup (xs : List D)
  | dct (kvs : List (Key × D))
  | obj (C : Str) (fs : List (Str × D))
  | scr (ns : List Int)
/-- the own classes by name; the written part -/
structure Cl where
  f : Str → Option Addr
  K : PySem.W.Frag
  o : Str → Option Addr

mutual
inductive Rep (cl : Cl) (H : Hp) : D → V → Prop
  | non : Rep cl H .non .non
  | bl (b : Bool) : Rep cl H (.bl b) (.bl b)
  | int (i : Int) : Rep cl H (.int i) (.int i)
  | str (x : Str) : Rep cl H (.str x) (.str x)
  | lst {a : Addr} {ds : List D} {xs : List V} : H a = some (.lst xs) → RepL cl H ds xs → Rep cl H (.lst ds) (.ref a)
  | tup {a : Addr} {ds : List D} {xs : List V} : H a = some (.tup xs) → RepL cl H ds xs → Rep cl H (.tup ds) (.ref a)
  | dct {a : Addr} {ds : List (Key × D)} {xs : List (Key × V)} : Rd H a (.dK xs) → RepK cl H ds xs → Rep cl H (.dct ds) (.ref a)
  | obj {a c dx : Addr} {C : Str} {ds : List (Str × D)} {xs : List (Str × V)} : cl.o C = some c → H a = some (.ins c dx xs) → RepF cl H ds xs → Rep cl H (.obj C ds) (.ref a)
  | scr {a : Addr} {ns : List Int} : SqL cl.K H a (ns.map V.int) → Rep cl H (.scr ns) (.ref a)
inductive RepL (cl : Cl) (H : Hp) : List D → List V → Prop
  | nil : RepL cl H [] []
  | cons {d : D} {ds : List D} {v : V} {vs : List V} : Rep cl H d v → RepL cl H ds vs → RepL cl H (d :: ds) (v :: vs)
inductive RepK (cl : Cl) (H : Hp) : List (Key × D) → List (Key × V) → Prop
  | nil : RepK cl H [] []
  | cons {k : Key} {d : D} {ds : List (Key × D)} {v : V} {vs : List (Key × V)} : Rep cl H d v → RepK cl H ds vs → RepK cl H ((k, d) :: ds) ((k, v) :: vs)
inductive RepF (cl : Cl) (H : Hp) : List (Str × D) → List (Str × V) → Prop
  | nil : RepF cl H [] []
  | cons {k : Str} {d : D} {ds : List (Str × D)} {v : V} {vs : List (Str × V)} : Rep cl H d v → RepF cl H ds vs → RepF cl H ((k, d) :: ds) ((k, v) :: vs)
end

section
variable {cl : Cl} {H H' : Hp}
mutual
theorem Rep.same (e : Same H H') : ∀ (d : D) (v : V), Rep cl H d v → Rep cl H' d v
  | .non, _, h => by cases h; exact .non
  | .bl b, _, h => by cases h; exact .bl b
  | .int i, _, h => by cases h; exact .int i
  | .str x, _, h => by cases h; exact .str x
  | .lst ds, _, h => by
    cases h with
    | lst h1 h2 => exact .lst (e.at _ _ h1) (RepL.same e ds _ h2)
  | .tup ds, _, h => by
    cases h with
    | tup h1 h2 => exact .tup (e.at _ _ h1) (RepL.same e ds _ h2)
  | .dct ds, _, h => by
    cases h with
    | dct h1 h2 => exact .dct (e.rd h1) (RepK.same e ds _ h2)
  | .obj C ds, _, h => by
    cases h with
    | obj h0 h1 h2 => exact .obj h0 (e.at _ _ h1) (RepF.same e ds _ h2)
  | .scr ns, _, h => by
    cases h with
    | scr h1 => exact .scr (e.seq h1)
theorem RepL.same (e : Same H H') : ∀ (ds : List D) (vs : List V), RepL cl H ds vs → RepL cl H' ds vs
  | [], _, h => by cases h; exact .nil
  | d :: ds, _, h => by
    cases h with
    | cons h1 h2 => exact .cons (Rep.same e d _ h1) (RepL.same e ds _ h2)
theorem RepK.same (e : Same H H') : ∀ (ds : List (Key × D)) (vs : List (Key × V)), RepK cl H ds vs → RepK cl H' ds vs
  | [], _, h => by cases h; exact .nil
  | (k, d) :: ds, _, h => by
    cases h with
    | cons h1 h2 => exact .cons (Rep.same e d _ h1) (RepK.same e ds _ h2)
theorem RepF.same (e : Same H H') : ∀ (ds : List (Str × D)) (vs : List (Str × V)), RepF cl H ds vs → RepF cl H' ds vs
  | [], _, h => by cases h; exact .nil
  | (k, d) :: ds, _, h => by
    cases h with
    | cons h1 h2 => exact .cons (Rep.same e d _ h1) (RepF.same e ds _ h2)
end
theorem RepL.length : ∀ {ds : List D} {vs : List V}, RepL cl H ds vs → vs.length = ds.length
  | [], _, h => by cases h; rfl
  | d :: ds, _, h => by
    cases h with
    | cons h1 h2 => rw [List.length_cons, List.length_cons, RepL.length h2]
theorem RepL.get : ∀ {ds : List D} {vs : List V} {i : Nat} {d : D}, RepL cl H ds vs → ds[i]? = some d → ∃ v, vs[i]? = some v ∧ Rep cl H d v
  | [], _, _, _, _, e => by simp at e
  | d :: ds, _, 0, _, h, e => by
    cases h with
    | cons h1 h2 =>
      simp at e
      subst e
      exact ⟨_, rfl, h1⟩
  | d :: ds, _, i + 1, _, h, e => by
    cases h with
    | cons h1 h2 =>
      obtain ⟨v, q, r⟩ := RepL.get (i := i) h2 (by simpa using e)
      exact ⟨v, by simpa using q, r⟩
theorem RepL.getV : ∀ {ds : List D} {vs : List V} {i : Nat} {v : V}, RepL cl H ds vs → vs[i]? = some v → ∃ d, ds[i]? = some d ∧ Rep cl H d v
  | [], _, _, _, h, e => by cases h; simp at e
  | d :: ds, _, 0, _, h, e => by
    cases h with
    | cons h1 h2 =>
      simp at e
      subst e
      exact ⟨_, rfl, h1⟩
  | d :: ds, _, i + 1, _, h, e => by
    cases h with
    | cons h1 h2 =>
      obtain ⟨d', q, r⟩ := RepL.getV (i := i) h2 (by simpa using e)
      exact ⟨d', by simpa using q, r⟩
theorem RepL.app : ∀ {ds ds' : List D} {vs vs' : List V}, RepL cl H ds vs → RepL cl H ds' vs' → RepL cl H (ds ++ ds') (vs ++ vs')
  | [], _, _, _, h, h' => by cases h; exact h'
  | d :: ds, _, _, _, h, h' => by
    cases h with
    | cons h1 h2 => exact .cons h1 (RepL.app h2 h')
theorem RepL.take : ∀ {ds : List D} {vs : List V} (n : Nat), RepL cl H ds vs → RepL cl H (ds.take n) (vs.take n)
  | _, _, 0, _ => .nil
  | [], _, _ + 1, h => by cases h; exact .nil
  | d :: ds, _, n + 1, h => by
    cases h with
    | cons h1 h2 => exact .cons h1 (RepL.take n h2)
theorem RepL.drop : ∀ {ds : List D} {vs : List V} (n : Nat), RepL cl H ds vs → RepL cl H (ds.drop n) (vs.drop n)
  | _, _, 0, h => h
  | [], _, _ + 1, h => by cases h; exact .nil
  | d :: ds, _, n + 1, h => by
    cases h with
    | cons h1 h2 => exact RepL.drop n h2
theorem RepL.rev {ds : List D} {vs : List V} (h : RepL cl H ds vs) : RepL cl H ds.reverse vs.reverse := by
  have key : ∀ (ds : List D) (vs : List V) (es : List D) (us : List V), RepL cl H ds vs → RepL cl H es us → RepL cl H (ds.reverseAux es) (vs.reverseAux us) := by
    intro ds
    induction ds with
    | nil =>
      intro vs es us h1 h2
      cases h1
      exact h2
    | cons d ds ih =>
      intro vs es us h1 h2
      cases h1 with
      | cons a b =>
        have q := ih _ _ _ b (.cons a h2)
        exact q
  exact key ds vs [] [] h .nil
theorem RepL.set : ∀ {ds : List D} {vs : List V} {d : D} {v : V} (i : Nat), RepL cl H ds vs → Rep cl H d v → RepL cl H (ds.set i d) (vs.set i v)
  | [], _, _, _, _, h, _ => by cases h; exact .nil
  | d :: ds, _, _, _, 0, h, r => by
    cases h with
    | cons h1 h2 => exact .cons r h2
  | d :: ds, _, _, _, i + 1, h, r => by
    cases h with
    | cons h1 h2 => exact .cons h1 (RepL.set i h2 r)
theorem RepL.dropLast : ∀ {ds : List D} {vs : List V}, RepL cl H ds vs → RepL cl H ds.dropLast vs.dropLast := fun {ds vs} h => by
  rw [List.dropLast_eq_take, List.dropLast_eq_take, h.length]
  exact h.take _
theorem RepL.ints {ns : List Int} : ∀ {vs : List V}, RepL cl H (ns.map D.int) vs → vs = ns.map V.int := by
  induction ns with
  | nil =>
    intro vs h
    cases h
    rfl
  | cons n ns ih =>
    intro vs h
    cases h with
    | cons h1 h2 =>
      cases h1
      rw [ih h2]
      rfl
theorem RepL.ofInts (ns : List Int) : RepL cl H (ns.map D.int) (ns.map V.int) := by
  induction ns with
  | nil => exact .nil
  | cons n ns ih => exact .cons (.int n) ih
end

/-! ### ownership -/
/-- no list, dict, object: what never changes -/
def D.plain : D → Bool
  | .lst _ => false
  | .dct _ => false
  | .obj _ _ => false
  | _ => true
/-! what is borrowed: it is stable, or a list, a dict of stable things, or an object of such ones -/
mutual
inductive RB (cl : Cl) (Hs H : Hp) : D → V → Prop
  | val {d : D} {v : V} : Rep cl Hs d v → RB cl Hs H d v
  | lst {a : Addr} {ds : List D} {xs : List V} : H a = some (.lst xs) → RepL cl Hs ds xs → RB cl Hs H (.lst ds) (.ref a)
  | dct {a : Addr} {ds : List (Key × D)} {xs : List (Key × V)} : Rd H a (.dK xs) → RepK cl Hs ds xs → RB cl Hs H (.dct ds) (.ref a)
  | obj {a c dx : Addr} {C : Str} {ds : List (Str × D)} {xs : List (Str × V)} : cl.o C = some c → H a = some (.ins c dx xs) → RBF cl Hs H ds xs → RB cl Hs H (.obj C ds) (.ref a)
inductive RBF (cl : Cl) (Hs H : Hp) : List (Str × D) → List (Str × V) → Prop
  | nil : RBF cl Hs H [] []
  | cons {k : Str} {d : D} {ds : List (Str × D)} {v : V} {vs : List (Str × V)} : RB cl Hs H d v → RBF cl Hs H ds vs → RBF cl Hs H ((k, d) :: ds) ((k, v) :: vs)
end
section
variable {cl : Cl} {Hs Hs' H H' : Hp}
mutual
theorem RB.same (e : Same Hs Hs') (h : Same H H') : ∀ {d : D} {v : V}, RB cl Hs H d v → RB cl Hs' H' d v
  | _, _, .val r => .val (Rep.same e _ _ r)
  | _, _, .lst h1 h2 => .lst (h.at _ _ h1) (RepL.same e _ _ h2)
  | _, _, .dct h1 h2 => .dct (h.rd h1) (RepK.same e _ _ h2)
  | _, _, .obj h0 h1 h2 => .obj h0 (h.at _ _ h1) (RBF.same e h h2)
theorem RBF.same (e : Same Hs Hs') (h : Same H H') : ∀ {ds : List (Str × D)} {vs : List (Str × V)}, RBF cl Hs H ds vs → RBF cl Hs' H' ds vs
  | _, _, .nil => .nil
  | _, _, .cons a b => .cons (RB.same e h a) (RBF.same e h b)
end
end
inductive Kd where
  | val
  | bor
  | own (n : Option Addr)
  | obj (n : Option Addr) (ks : List (Str × Kd))
  | adr (a : Addr)
  | lls (n : Option Addr) (k : Kd)

mutual
/-- d lies at v: cl the classes, N what is new, B what was borrowed at the entry, Hs what stays as it is, H all; As: what may be changed -/
inductive ORep (cl : Cl) (N : Addr → Prop) (B Hs H : Hp) : Kd → D → V → List Addr → Prop
  | val {d : D} {v : V} : Rep cl Hs d v → ORep cl N B Hs H .val d v []
  | borV {d : D} {v : V} : Rep cl Hs d v → ORep cl N B Hs H .bor d v []
  | borL {a : Addr} {ds : List D} {xs : List V} : B a = some (.lst xs) → RepL cl Hs ds xs → ORep cl N B Hs H .bor (.lst ds) (.ref a) []
  | borK {a : Addr} {ds : List (Key × D)} {xs : List (Key × V)} : Rd B a (.dK xs) → RepK cl Hs ds xs → ORep cl N B Hs H .bor (.dct ds) (.ref a) []
  | borO {a c dx : Addr} {C : Str} {ds : List (Str × D)} {xs : List (Str × V)} : cl.o C = some c → B a = some (.ins c dx xs) → RBF cl Hs B ds xs → ORep cl N B Hs H .bor (.obj C ds) (.ref a) []
  | ownL {n : Option Addr} {a : Addr} {ds : List D} {xs : List V} : (N a ∧ ∀ b, n = some b → b = a) → H a = some (.lst xs) → RepL cl Hs ds xs → ORep cl N B Hs H (.own n) (.lst ds) (.ref a) [a]
  | ownK {n : Option Addr} {a : Addr} {ds : List (Key × D)} {xs : List (Key × V)} : (N a ∧ ∀ b, n = some b → b = a) → H a = some (.dK xs) → RepK cl Hs ds xs → ORep cl N B Hs H (.own n) (.dct ds) (.ref a) [a]
  | ownV {d : D} {v : V} : d.plain = true → Rep cl Hs d v → ORep cl N B Hs H (.own none) d v []
  | obj {n : Option Addr} {ks : List (Str × Kd)} {a c dx : Addr} {C : Str} {ds : List (Str × D)} {xs : List (Str × V)} {As : List Addr} :
      (N a ∧ ∀ b, n = some b → b = a) → cl.o C = some c → H a = some (.ins c dx xs) → OFs cl N B Hs H ks ds xs As → ORep cl N B Hs H (.obj n ks) (.obj C ds) (.ref a) (a :: As)
  | adr {a : Addr} : ORep cl N B Hs H (.adr a) .non (.ref a) []
  | lls {n : Option Addr} {k : Kd} {a : Addr} {ds : List D} {xs : List V} {As : List Addr} : (N a ∧ ∀ b, n = some b → b = a) → H a = some (.lst xs) → OLs cl N B Hs H k ds xs As → ORep cl N B Hs H (.lls n k) (.lst ds) (.ref a) (a :: As)
  | llT {n : Option Addr} {k : Kd} {a : Addr} {ds : List D} {xs : List V} {As : List Addr} : (N a ∧ ∀ b, n = some b → b = a) → H a = some (.tup xs) → OLs cl N B Hs H k ds xs As → ORep cl N B Hs H (.lls n k) (.tup ds) (.ref a) (a :: As)
  | llV {k : Kd} {d : D} {v : V} : d.plain = true → Rep cl Hs d v → ORep cl N B Hs H (.lls none k) d v []
inductive OFs (cl : Cl) (N : Addr → Prop) (B Hs H : Hp) : List (Str × Kd) → List (Str × D) → List (Str × V) → List Addr → Prop
  | nil : OFs cl N B Hs H [] [] [] []
  | cons {f : Str} {k : Kd} {d : D} {v : V} {A As : List Addr} {ks : List (Str × Kd)} {ds : List (Str × D)} {xs : List (Str × V)} :
      ORep cl N B Hs H k d v A → OFs cl N B Hs H ks ds xs As → OFs cl N B Hs H ((f, k) :: ks) ((f, d) :: ds) ((f, v) :: xs) (A ++ As)
/-- a list's items, each of kind k -/
inductive OLs (cl : Cl) (N : Addr → Prop) (B Hs H : Hp) : Kd → List D → List V → List Addr → Prop
  | nil {k : Kd} : OLs cl N B Hs H k [] [] []
  | cons {k : Kd} {d : D} {v : V} {A As : List Addr} {ds : List D} {xs : List V} : ORep cl N B Hs H k d v A → OLs cl N B Hs H k ds xs As → OLs cl N B Hs H k (d :: ds) (v :: xs) (A ++ As)
end

section
variable {cl : Cl} {N N' : Addr → Prop} {B B' Hs Hs' H H' : Hp}
theorem OLs.imp {k : Kd} (T : List Addr → Prop) (t1 : ∀ A As, T (A ++ As) → T A) (t2 : ∀ A As, T (A ++ As) → T As) (f : ∀ d v A, T A → ORep cl N B Hs H k d v A → ORep cl N' B' Hs' H' k d v A) : ∀ {ds : List D} {xs : List V} {As : List Addr}, T As → OLs cl N B Hs H k ds xs As → OLs cl N' B' Hs' H' k ds xs As
  | [], _, _, _, h => by cases h; exact .nil
  | d :: ds, _, _, t, h => by
    cases h with
    | cons h1 h2 => exact .cons (f _ _ _ (t1 _ _ t) h1) (OLs.imp T t1 t2 f (t2 _ _ t) h2)
theorem OLs.all {k : Kd} {P : Addr → Prop} (f : ∀ d v A, ORep cl N B Hs H k d v A → ∀ a ∈ A, P a) : ∀ {ds : List D} {xs : List V} {As : List Addr}, OLs cl N B Hs H k ds xs As → ∀ a ∈ As, P a
  | [], _, _, h => by cases h; intro a z; cases z
  | d :: ds, _, _, h => by
    cases h with
    | cons h1 h2 =>
      intro a z
      rcases List.mem_append.mp z with z | z
      · exact f _ _ _ h1 a z
      · exact OLs.all f h2 a z
theorem OLs.length {k : Kd} : ∀ {ds : List D} {xs : List V} {As : List Addr}, OLs cl N B Hs H k ds xs As → xs.length = ds.length
  | [], _, _, h => by cases h; rfl
  | d :: ds, _, _, h => by
    cases h with
    | cons h1 h2 => rw [List.length_cons, List.length_cons, OLs.length h2]
mutual
theorem ORep.mono (e : Same Hs Hs') (b : Same B B') (nn : ∀ a, N a → N' a) : ∀ (k : Kd) (d : D) (v : V) (A : List Addr), (∀ a ∈ A, H' a = H a) → ORep cl N B Hs H k d v A → ORep cl N' B' Hs' H' k d v A
  | .val, d, v, _, _, h => by
    cases h with
    | val h1 => exact .val (Rep.same e _ _ h1)
  | .bor, d, v, _, _, h => by
    cases h with
    | borV h1 => exact .borV (Rep.same e _ _ h1)
    | borL h1 h2 => exact .borL (b.at _ _ h1) (RepL.same e _ _ h2)
    | borK h1 h2 => exact .borK (b.rd h1) (RepK.same e _ _ h2)
    | borO h0 h1 h2 => exact .borO h0 (b.at _ _ h1) (RBF.same e b h2)
  | .own n, d, v, _, k, h => by
    cases h with
    | ownL h0 h1 h2 => exact .ownL ⟨nn _ h0.1, h0.2⟩ ((k _ List.mem_cons_self).trans h1) (RepL.same e _ _ h2)
    | ownK h0 h1 h2 => exact .ownK ⟨nn _ h0.1, h0.2⟩ ((k _ List.mem_cons_self).trans h1) (RepK.same e _ _ h2)
    | ownV h0 h1 => exact .ownV h0 (Rep.same e _ _ h1)
  | .obj n ks, d, v, _, k, h => by
    cases h with
    | obj h0 h1 h2 h3 => exact .obj ⟨nn _ h0.1, h0.2⟩ h1 ((k _ List.mem_cons_self).trans h2) (OFs.mono e b nn ks _ _ _ (fun a ha => k a (List.mem_cons_of_mem _ ha)) h3)
  | .adr a, d, v, _, _, h => by
    cases h with
    | adr => exact .adr
  | .lls n kd, d, v, _, k, h => by
    cases h with
    | lls h0 h1 h2 => exact .lls ⟨nn _ h0.1, h0.2⟩ ((k _ List.mem_cons_self).trans h1) (OLs.imp (fun A => ∀ a ∈ A, H' a = H a) (fun _ _ t a ha => t a (List.mem_append_left _ ha)) (fun _ _ t a ha => t a (List.mem_append_right _ ha)) (fun d v A t o => ORep.mono e b nn kd d v A t o) (fun a ha => k a (List.mem_cons_of_mem _ ha)) h2)
    | llT h0 h1 h2 => exact .llT ⟨nn _ h0.1, h0.2⟩ ((k _ List.mem_cons_self).trans h1) (OLs.imp (fun A => ∀ a ∈ A, H' a = H a) (fun _ _ t a ha => t a (List.mem_append_left _ ha)) (fun _ _ t a ha => t a (List.mem_append_right _ ha)) (fun d v A t o => ORep.mono e b nn kd d v A t o) (fun a ha => k a (List.mem_cons_of_mem _ ha)) h2)
    | llV h0 h1 => exact .llV h0 (Rep.same e _ _ h1)
theorem OFs.mono (e : Same Hs Hs') (b : Same B B') (nn : ∀ a, N a → N' a) : ∀ (ks : List (Str × Kd)) (ds : List (Str × D)) (xs : List (Str × V)) (A : List Addr), (∀ a ∈ A, H' a = H a) → OFs cl N B Hs H ks ds xs A → OFs cl N' B' Hs' H' ks ds xs A
  | [], _, _, _, _, h => by cases h; exact .nil
  | (f, kd) :: ks, _, _, _, k, h => by
    cases h with
    | cons h1 h2 => exact .cons (ORep.mono e b nn kd _ _ _ (fun a ha => k a (List.mem_append_left _ ha)) h1) (OFs.mono e b nn ks _ _ _ (fun a ha => k a (List.mem_append_right _ ha)) h2)
end
end
end VL

namespace VL
open PySem PySem.Spec PyProof.Rows L2

/-! ### results -/
/-- an exception: its class's name, its field -/
structure Exc where
  cls : Str
  at_ : Option D
inductive R (α : Type) where
  | stuck
  | exc (x : Exc)
  | ok (a : α)
@[reducible] def R.bind {α β : Type} (r : R α) (k : α → R β) : R β := match r with
  | .stuck => .stuck
  | .exc x => .exc x
  | .ok a => k a
instance : Monad R where
  pure := R.ok
  bind := R.bind
@[simp] theorem R.ok_bind {α β : Type} (a : α) (k : α → R β) : (R.ok a >>= k) = k a := rfl
@[simp] theorem R.stuck_bind {α β : Type} (k : α → R β) : ((R.stuck : R α) >>= k) = .stuck := rfl
@[simp] theorem R.exc_bind {α β : Type} (x : Exc) (k : α → R β) : ((R.exc x : R α) >>= k) = .exc x := rfl
@[simp] theorem R.pure_eq {α : Type} (a : α) : (pure a : R α) = .ok a := rfl
abbrev Sl := List (Option D)
/-- a statement's end -/
inductive O where
  | stuck
  | nx (r : Sl)
  | rt (d : D) (r : Sl)
  | exc (x : Exc) (r : Sl)

/-! ### growth of the heap -/
structure Grow (Hs H Hs' H' : Hp) : Prop where
  s : Same Hs Hs'
  h : Same H H'
  n : ∀ a, Hs' a ≠ none → Hs a ≠ none ∨ H a = none
  sub : Same Hs' H'
  t : ∀ P, LamX.TabS H P lamQ → LamX.TabS H' P lamQ
theorem Grow.refl {Hs H : Hp} (e : Same Hs H) : Grow Hs H Hs H := ⟨Same.refl _, Same.refl _, fun _ z => .inl z, e, fun _ z => z⟩
theorem tab_upd {H : Hp} {p : Addr} {o : HO} (hp : H p = none) (P : Addr) (z : LamX.TabS H P lamQ) : LamX.TabS (upd H p o) P lamQ := z.ext fun b u q => by
  rw [upd_ne (ne_of_none q hp)]
  exact q
theorem Grow.trans {Hs H H1s H1 H2s H2 : Hp} (a : Grow Hs H H1s H1) (b : Grow H1s H1 H2s H2) : Grow Hs H H2s H2 where
  s := a.s.trans b.s
  h := a.h.trans b.h
  n := fun c z => by
    rcases b.n c z with q | q
    · exact a.n c q
    · exact .inr (a.h.free q)
  sub := b.sub
  t := fun P z => b.t P (a.t P z)
theorem Same.updNew {H : Hp} {p : Addr} {o : HO} (hp : H p = none) : Same H (upd H p o) := ⟨fun b u q _ => by
  rw [upd_ne (ne_of_none q hp)]
  exact q⟩
theorem Same.updBoth {Hs H : Hp} (e : Same Hs H) {p : Addr} {o : HO} : Same (upd Hs p o) (upd H p o) := ⟨fun b u q nt => by
  by_cases h : b = p
  · rw [h, upd_same] at q
    rw [h, upd_same]
    exact q
  · rw [upd_ne h] at q nt
    rw [upd_ne h]
    exact e.k _ _ q nt⟩
theorem tab_mut {H : Hp} {D : Addr} {o o' : HO} (hD : H D = some o) (P : Addr) (z : LamX.TabS H P lamQ) (n1 : NT o := by intro _ z; cases z) (n2 : ∀ c q, o ≠ LamX.CodeO c q := by intro _ _ z; unfold LamX.CodeO at z; cases z) : LamX.TabS (upd H D o') P lamQ := by
  obtain ⟨ps, h1, h2, h3⟩ := z
  have e : ∀ b u, H b = some u → u ≠ o → upd H D o' b = some u := fun b u q n => by
    rw [upd_ne fun w => n (by rw [w, hD] at q; exact (Option.some.inj q).symm)]
    exact q
  refine ⟨ps, e _ _ h1 fun w => n1 ps w.symm, h2, fun pos cv hc => ?_⟩
  obtain ⟨c, e1, e2⟩ := h3 pos cv hc
  exact ⟨c, e1, e _ _ e2 fun w => n2 c lamQ w.symm⟩
/-- a new stable object -/
theorem Grow.new {Hs H : Hp} (e : Same Hs H) {p : Addr} {o : HO} (hp : H p = none) : Grow Hs H (upd Hs p o) (upd H p o) where
  s := Same.updNew (e.free hp)
  h := Same.updNew hp
  n := fun a z => by
    by_cases h : a = p
    · exact .inr (h ▸ hp)
    · rw [upd_ne h] at z
      exact .inl z
  sub := Same.updBoth e
  t := tab_upd hp
/-- a new object that may yet be changed -/
theorem Grow.fresh {Hs H : Hp} (e : Same Hs H) {p : Addr} {o : HO} (hp : H p = none) : Grow Hs H Hs (upd H p o) where
  s := Same.refl _
  h := Same.updNew hp
  n := fun a z => .inl z
  sub := e.trans (Same.updNew hp)
  t := tab_upd hp
theorem Grow.same {Hs H H' : Hp} (e : Same Hs H) (k : Same H H') (tt : ∀ P, LamX.TabS H P lamQ → LamX.TabS H' P lamQ) : Grow Hs H Hs H' where
  s := Same.refl _
  h := k
  n := fun _ z => .inl z
  sub := e.trans k
  t := tt

/-! ### the state -/
/-- the entry of a def: the classes, the heap, what stays as it is, what may be read -/
structure En where
  cl : Cl
  h : Hp
  s : Hp
  b : Hp
def En.N (E : En) (a : Addr) : Prop := E.h a = none
inductive Slots (E : En) (Hs H : Hp) : List Kd → Sl → L2.St → List Addr → Prop
  | nil : Slots E Hs H [] [] [] []
  | skip {k : Kd} {x : Option V} {ks : List Kd} {r : Sl} {t : L2.St} {As : List Addr} : Slots E Hs H ks r t As → Slots E Hs H (k :: ks) (none :: r) (x :: t) As
  | cons {k : Kd} {d : D} {v : V} {A : List Addr} {ks : List Kd} {r : Sl} {t : L2.St} {As : List Addr} : ORep E.cl E.N E.b Hs H k d v A → Slots E Hs H ks r t As → Slots E Hs H (k :: ks) (some d :: r) (some v :: t) (A ++ As)
structure StOk (E : En) (Hs H : Hp) (ks : List Kd) (r : Sl) (t : L2.St) (As : List Addr) : Prop where
  sl : Slots E Hs H ks r t As
  nd : As.Nodup
  dis : ∀ a ∈ As, Hs a = none ∧ E.b a = none
  es : Same E.s Hs
  sub : Same Hs H
  eb : Same E.b H
  new : ∀ a, Hs a ≠ none → E.s a ≠ none ∨ E.h a = none
  dom : ∀ a, H a = none → E.h a = none
  tb : ∀ P, LamX.TabS E.h P lamQ → LamX.TabS H P lamQ
def StRel (E : En) (Hs H : Hp) (ks : List Kd) (r : Sl) (t : L2.St) : Prop := ∃ As, StOk E Hs H ks r t As

section
variable {E : En} {Hs H Hs' H' : Hp} {ks : List Kd} {r : Sl} {t : L2.St} {As : List Addr}
theorem Slots.mono (e : Same Hs Hs') : ∀ {ks : List Kd} {r : Sl} {t : L2.St} {As : List Addr}, (∀ a ∈ As, H' a = H a) → Slots E Hs H ks r t As → Slots E Hs' H' ks r t As
  | _, _, _, _, _, .nil => .nil
  | _, _, _, _, k, .skip h => .skip (Slots.mono e k h)
  | _, _, _, _, k, .cons h1 h2 => .cons (ORep.mono e (Same.refl _) (fun _ z => z) _ _ _ _ (fun a ha => k a (List.mem_append_left _ ha)) h1) (Slots.mono e (fun a ha => k a (List.mem_append_right _ ha)) h2)
mutual
theorem ORep.here {cl : Cl} {N : Addr → Prop} {B Hs H : Hp} : ∀ (k : Kd) (d : D) (v : V) (A : List Addr), ORep cl N B Hs H k d v A → ∀ a ∈ A, ∃ o, H a = some o ∧ NT o
  | .val, _, _, _, h => by cases h; intro a z; cases z
  | .bor, _, _, _, h => by cases h <;> (intro a z; cases z)
  | .own n, _, _, _, h => by
    cases h with
    | ownL _ h1 _ => intro a z; simp at z; subst z; exact ⟨_, h1, by intro _ z; cases z⟩
    | ownK _ h1 _ => intro a z; simp at z; subst z; exact ⟨_, h1, by intro _ z; cases z⟩
    | ownV _ _ => intro a z; cases z
  | .obj n ks, _, _, _, h => by
    cases h with
    | obj _ _ h2 h3 =>
      intro a z
      rcases List.mem_cons.mp z with e | z
      · rw [e]; exact ⟨_, h2, by intro _ z; cases z⟩
      · exact OFs.here ks _ _ _ h3 a z
  | .adr _, _, _, _, h => by cases h; intro a z; cases z
  | .lls n k, _, _, _, h => by
    cases h with
    | lls _ h1 h2 =>
      intro a z
      rcases List.mem_cons.mp z with e | z
      · rw [e]; exact ⟨_, h1, by intro _ z; cases z⟩
      · exact OLs.all (fun d v A o => ORep.here k d v A o) h2 a z
    | llT _ h1 h2 =>
      intro a z
      rcases List.mem_cons.mp z with e | z
      · rw [e]; exact ⟨_, h1, by intro _ z; cases z⟩
      · exact OLs.all (fun d v A o => ORep.here k d v A o) h2 a z
    | llV _ _ => intro a z; cases z
theorem OFs.here {cl : Cl} {N : Addr → Prop} {B Hs H : Hp} : ∀ (ks : List (Str × Kd)) (ds : List (Str × D)) (xs : List (Str × V)) (A : List Addr), OFs cl N B Hs H ks ds xs A → ∀ a ∈ A, ∃ o, H a = some o ∧ NT o
  | [], _, _, _, h => by cases h; intro a z; cases z
  | (f, k) :: ks, _, _, _, h => by
    cases h with
    | cons h1 h2 =>
      intro a z
      rcases List.mem_append.mp z with z | z
      · exact ORep.here k _ _ _ h1 a z
      · exact OFs.here ks _ _ _ h2 a z
end
theorem Slots.here : ∀ {ks : List Kd} {r : Sl} {t : L2.St} {As : List Addr}, Slots E Hs H ks r t As → ∀ a ∈ As, ∃ o, H a = some o ∧ NT o
  | _, _, _, _, .nil, a, z => by cases z
  | _, _, _, _, .skip h, a, z => Slots.here h a z
  | _, _, _, _, .cons h1 h2, a, z => by
    rcases List.mem_append.mp z with z | z
    · exact ORep.here _ _ _ _ h1 a z
    · exact Slots.here h2 a z
theorem Slots.len : ∀ {ks : List Kd} {r : Sl} {t : L2.St} {As : List Addr}, Slots E Hs H ks r t As → r.length = ks.length ∧ t.length = ks.length
  | _, _, _, _, .nil => ⟨rfl, rfl⟩
  | _, _, _, _, .skip h => by simp [Slots.len h]
  | _, _, _, _, .cons _ h => by simp [Slots.len h]
theorem StOk.grow (S : StOk E Hs H ks r t As) (g : Grow Hs H Hs' H') : StOk E Hs' H' ks r t As := by
  have hh := S.sl.here
  refine ⟨S.sl.mono g.s fun a ha => ?_, S.nd, fun a ha => ⟨?_, (S.dis a ha).2⟩, S.es.trans g.s, g.sub, S.eb.trans g.h, fun a z => ?_, fun a z => S.dom a (g.h.free z), fun P z => g.t P (S.tb P z)⟩
  · obtain ⟨o, e, nt⟩ := hh a ha
    rw [e]
    exact g.h.at _ _ e nt
  · cases q : Hs' a with
    | none => rfl
    | some u =>
      rcases g.n a (by rw [q]; simp) with z | z
      · exact absurd (S.dis a ha).1 z
      · obtain ⟨o, e, _⟩ := hh a ha
        rw [e] at z
        cases z
  · rcases g.n a z with q | q
    · exact S.new a q
    · exact .inr (S.dom a q)
theorem StRel.grow (S : StRel E Hs H ks r t) (g : Grow Hs H Hs' H') : StRel E Hs' H' ks r t := let ⟨As, q⟩ := S; ⟨As, q.grow g⟩
theorem StRel.sub (S : StRel E Hs H ks r t) : Same Hs H := let ⟨_, q⟩ := S; q.sub
/-- the place i of the state -/
theorem Slots.at_ : ∀ {ks : List Kd} {r : Sl} {t : L2.St} {As : List Addr} (i : Nat) {k : Kd}, Slots E Hs H ks r t As → ks[i]? = some k →
    ∃ (pre A post : List Addr), As = pre ++ (A ++ post) ∧ (∀ d, r[i]? = some (some d) → ∃ v, t[i]? = some (some v) ∧ ORep E.cl E.N E.b Hs H k d v A) ∧
      (∀ k' d v A', ORep E.cl E.N E.b Hs H k' d v A' → Slots E Hs H (ks.set i k') (r.set i (some d)) (t.set i (some v)) (pre ++ (A' ++ post))) ∧
      (∀ k' x, Slots E Hs H (ks.set i k') (r.set i none) (t.set i x) (pre ++ post)) ∧
      (∀ Hs' H', Same Hs Hs' → (∀ a ∈ pre ++ post, H' a = H a) → ∀ k' d v A', ORep E.cl E.N E.b Hs' H' k' d v A' → Slots E Hs' H' (ks.set i k') (r.set i (some d)) (t.set i (some v)) (pre ++ (A' ++ post)))
  | _, _, _, _, i, k, .nil, e => by simp at e
  | _, _, _, _, 0, k, .skip (k := k0) (r := r) (t := t) (As := As) h, e => by
    refine ⟨[], [], As, rfl, fun d z => ?_, fun k' d v A' o => .cons (A := A') (As := As) o h, fun k' x => .skip h, fun Hs' H' s q k' d v A' o => .cons (A := A') (As := As) o (h.mono s q)⟩
    have z' : (some none : Option (Option D)) = some (some d) := z
    cases z'
  | _, _, _, _, 0, k, .cons (k := k0) (d := d0) (v := v0) (A := A0) (As := As) o h, e => by
    have e' : k0 = k := by simpa using e
    subst e'
    refine ⟨[], A0, As, rfl, fun d z => ?_, fun k' d v A' o' => .cons (A := A') (As := As) o' h, fun k' x => .skip h, fun Hs' H' s q k' d v A' o => .cons (A := A') (As := As) o (h.mono s q)⟩
    have z' : (some (some d0) : Option (Option D)) = some (some d) := z
    cases z'
    exact ⟨v0, rfl, o⟩
  | _, _, _, _, i + 1, k, .skip h, e => by
    obtain ⟨pre, A, post, e1, e2, e3, e4, e5⟩ := Slots.at_ i h (by simpa using e)
    exact ⟨pre, A, post, e1, fun d z => e2 d (by simpa using z), fun k' d v A' o => .skip (e3 k' d v A' o), fun k' x => .skip (e4 k' x), fun Hs' H' s q k' d v A' o => .skip (e5 Hs' H' s q k' d v A' o)⟩
  | _, _, _, _, i + 1, k, .cons (A := A0) o h, e => by
    obtain ⟨pre, A, post, e1, e2, e3, e4, e5⟩ := Slots.at_ i h (by simpa using e)
    refine ⟨A0 ++ pre, A, post, by rw [e1, List.append_assoc], fun d z => e2 d (by simpa using z), fun k' d v A' o' => ?_, fun k' x => ?_, fun Hs' H' s q k' d v A' o' => ?_⟩
    · rw [List.append_assoc]
      exact .cons o (e3 k' d v A' o')
    · rw [List.append_assoc]
      exact .cons o (e4 k' x)
    · rw [List.append_assoc]
      exact .cons (ORep.mono s (Same.refl _) (fun _ z => z) _ _ _ _ (fun a ha => q a (List.mem_append_left _ (List.mem_append_left _ ha))) o)
        (e5 Hs' H' s (fun a ha => q a (by
          rcases List.mem_append.mp ha with z | z
          · exact List.mem_append_left _ (List.mem_append_right _ z)
          · exact List.mem_append_right _ z)) k' d v A' o')
end
end VL

namespace VL
open PySem PySem.Spec PyProof.Rows L2

/-! ### what it takes, said of the model itself -/
def WEx (X : Cx) (e : Expr) : TE := fun σ H Q => ∀ (pins : List (Addr × Obj)) (s : Shared), Inv X pins σ H s → wpAny (model X.prog X.w) X.A (eval e X.env) (EP X pins σ Q) X.xe s
theorem pe_we {X : Cx} {e : Expr} : PE X e (WEx X e) := ⟨fun pins s _ _ _ I h => h pins s I⟩
theorem we_of {X : Cx} {e : Expr} {t : TE} {σ : L2.St} {H : Hp} {Q : VK} (p : PE X e t) (h : t σ H Q) : WEx X e σ H Q := fun pins s I => p.run pins s σ H Q I h
def WTx (X : Cx) (e : Expr) : TT := fun σ H Q => ∀ (pins : List (Addr × Obj)) (s : Shared), Inv X pins σ H s → wpAny (model X.prog X.w) X.A (isTrue e X.env (eval e X.env)) (TP X pins σ Q) X.xe s
theorem pt_wt {X : Cx} {e : Expr} : PT X e (WTx X e) := ⟨fun pins s _ _ _ I h => h pins s I⟩
theorem wt_of {X : Cx} {e : Expr} {t : TT} {σ : L2.St} {H : Hp} {Q : Bool → Hp → Prop} (p : PT X e t) (h : t σ H Q) : WTx X e σ H Q := fun pins s I => p.run pins s σ H Q I h
def WAx (X : Cx) (es : List Expr) : TA := fun σ H Q => ∀ (pos : Pos) (pins : List (Addr × Obj)) (s : Shared), Inv X pins σ H s → wpAny (model X.prog X.w) X.A (spliced (backTo pos (starEach es X.env))) (AP X pins σ Q) X.xe s
theorem pa_wa {X : Cx} {es : List Expr} : PA X es (WAx X es) := ⟨fun pos pins s _ _ _ I h => h pos pins s I⟩
theorem wa_of {X : Cx} {es : List Expr} {t : TA} {σ : L2.St} {H : Hp} {Q : List V → Hp → Prop} (p : PA X es t) (h : t σ H Q) : WAx X es σ H Q := fun pos pins s I => p.run pos pins s σ H Q I h
def WSx (X : Cx) (st : Stmt) : TS := fun Dn σ H => ∀ (pins : List (Addr × Obj)) (s : Shared), Inv X pins σ H s → wpAny (model X.prog X.w) X.A (exec st X.env) (SP X pins Dn) X.xe s
theorem ps_ws {X : Cx} {st : Stmt} : PS X st (WSx X st) := ⟨fun pins s _ _ _ I h => h pins s I⟩
theorem ws_of {X : Cx} {st : Stmt} {t : TS} {σ : L2.St} {H : Hp} {Dn : Ends} (p : PS X st t) (h : t Dn σ H) : WSx X st Dn σ H := fun pins s I => p.run pins s σ H Dn I h
def WSs (X : Cx) (st : List Stmt) : TS := fun Dn σ H => ∀ (pins : List (Addr × Obj)) (s : Shared), Inv X pins σ H s → wpAny (model X.prog X.w) X.A (execs st X.env) (SP X pins Dn) X.xe s
theorem pss_ws {X : Cx} {st : List Stmt} : PSs X st (WSs X st) := ⟨fun pins s _ _ _ I h => h pins s I⟩
theorem wss_of {X : Cx} {st : List Stmt} {t : TS} {σ : L2.St} {H : Hp} {Dn : Ends} (p : PSs X st t) (h : t Dn σ H) : WSs X st Dn σ H := fun pins s I => p.run pins s σ H Dn I h

/-! ### results laid in the heap -/
/-- d lies at v behind a step from the heap H0 -/
def RK (cl : Cl) (k : Kd) (H0 Hs H : Hp) (d : D) (v : V) : Prop :=
  ∃ A, ORep cl (fun a => H0 a = none) H Hs H k d v A ∧ A.Nodup ∧ ∀ a ∈ A, Hs a = none ∧ H0 a = none
def XRep (cl : Cl) (Hs H : Hp) (x : Exc) (c : Value) (dd : Option Addr) : Prop :=
  ∃ a, cl.f x.cls = some a ∧ c = .ref a ∧ match x.at_ with
    | none => dd = none
    | some d => ∃ p v, dd = some p ∧ Hs p = some (.xd [("at", v)]) ∧ Rep cl Hs d v
abbrev WX0 := Value → Option Addr → Hp → Prop
def Post (cl : Cl) (k : Kd) (Hs H : Hp) (Q : VK) (W : WX0) : R D → Prop
  | .stuck => False
  | .exc x => ∀ c dd Hs' H', Grow Hs H Hs' H' → XRep cl Hs' H' x c dd → W c dd H'
  | .ok d => ∀ v Hs' H', Grow Hs H Hs' H' → RK cl k H Hs' H' d v → Q v H'
section
variable {cl : Cl} {k k1 k2 : Kd} {Hs H Hs' H' : Hp} {Q Q1 : VK} {W : WX0}
theorem Post.grow {r : R D} (P : Post cl k Hs H Q W r) (g : Grow Hs H Hs' H') : Post cl k Hs' H' Q W r := by
  cases r with
  | stuck => exact P
  | exc x => exact fun c dd Hs2 H2 g2 x2 => P c dd Hs2 H2 (g.trans g2) x2
  | ok d =>
    intro v Hs2 H2 g2 ⟨A, o, nd, z⟩
    exact P v Hs2 H2 (g.trans g2) ⟨A, ORep.mono (Same.refl _) (Same.refl _) (fun a q => g.h.free q) _ _ _ _ (fun _ _ => rfl) o, nd, fun a ha => ⟨(z a ha).1, g.h.free (z a ha).2⟩⟩
theorem Post.imp {r : R D} {F : D → R D} (P : Post cl k2 Hs H Q W (r >>= F))
    (h : ∀ d v Hs' H', r = .ok d → Grow Hs H Hs' H' → RK cl k1 H Hs' H' d v → Post cl k2 Hs' H' Q W (F d) → Q1 v H') : Post cl k1 Hs H Q1 W r := by
  cases r with
  | stuck => exact P
  | exc x => exact P
  | ok d => exact fun v Hs' H' g rk => h d v Hs' H' rfl g rk (Post.grow (r := F d) P g)
/-- what was owned may be frozen -/
def Kd.fine : Kd → Bool
  | .bor => false
  | .adr _ => false
  | .obj _ ks => fines ks
  | .lls _ k => Kd.fine k
  | _ => true
where
  fines : List (Str × Kd) → Bool
    | [] => true
    | (_, k) :: r => Kd.fine k && fines r
theorem OLs.reps {N : Addr → Prop} {B Hs H T : Hp} {k : Kd} (Q : List Addr → Prop) (t1 : ∀ A As, Q (A ++ As) → Q A) (t2 : ∀ A As, Q (A ++ As) → Q As) (f : ∀ d v A, Q A → ORep cl N B Hs H k d v A → Rep cl T d v) : ∀ {ds : List D} {xs : List V} {As : List Addr}, Q As → OLs cl N B Hs H k ds xs As → RepL cl T ds xs
  | [], _, _, _, h => by cases h; exact .nil
  | d :: ds, _, _, t, h => by
    cases h with
    | cons h1 h2 => exact .cons (f _ _ _ (t1 _ _ t) h1) (OLs.reps Q t1 t2 f (t2 _ _ t) h2)
mutual
theorem ORep.freeze {N : Addr → Prop} {B T : Hp} (e : Same Hs T) : ∀ (k : Kd) (d : D) (v : V) (A : List Addr), k.fine = true → (∀ a ∈ A, T a = H a) → ORep cl N B Hs H k d v A → Rep cl T d v
  | .val, _, _, _, _, _, h => by
    cases h with
    | val h1 => exact Rep.same e _ _ h1
  | .bor, _, _, _, z, _, _ => by cases z
  | .own n, _, _, _, _, t, h => by
    cases h with
    | ownL _ h1 h2 => exact .lst ((t _ List.mem_cons_self).trans h1) (RepL.same e _ _ h2)
    | ownK _ h1 h2 => exact .dct (.inl ((t _ List.mem_cons_self).trans h1)) (RepK.same e _ _ h2)
    | ownV _ h1 => exact Rep.same e _ _ h1
  | .obj n ks, _, _, _, z, t, h => by
    cases h with
    | obj _ h1 h2 h3 => exact .obj h1 ((t _ List.mem_cons_self).trans h2) (OFs.freeze e ks _ _ _ (by simpa [Kd.fine] using z) (fun a ha => t a (List.mem_cons_of_mem _ ha)) h3)
  | .adr _, _, _, _, z, _, _ => by cases z
  | .lls n k, _, _, _, z, t, h => by
    cases h with
    | lls _ h1 h2 => exact .lst ((t _ List.mem_cons_self).trans h1) (OLs.reps (fun A => ∀ a ∈ A, T a = H a) (fun _ _ t a ha => t a (List.mem_append_left _ ha)) (fun _ _ t a ha => t a (List.mem_append_right _ ha)) (fun d v A t o => ORep.freeze e k d v A z t o) (fun a ha => t a (List.mem_cons_of_mem _ ha)) h2)
    | llT _ h1 h2 => exact .tup ((t _ List.mem_cons_self).trans h1) (OLs.reps (fun A => ∀ a ∈ A, T a = H a) (fun _ _ t a ha => t a (List.mem_append_left _ ha)) (fun _ _ t a ha => t a (List.mem_append_right _ ha)) (fun d v A t o => ORep.freeze e k d v A z t o) (fun a ha => t a (List.mem_cons_of_mem _ ha)) h2)
    | llV _ h1 => exact Rep.same e _ _ h1
theorem OFs.freeze {N : Addr → Prop} {B T : Hp} (e : Same Hs T) : ∀ (ks : List (Str × Kd)) (ds : List (Str × D)) (xs : List (Str × V)) (A : List Addr), Kd.fine.fines ks = true → (∀ a ∈ A, T a = H a) → OFs cl N B Hs H ks ds xs A → RepF cl T ds xs
  | [], _, _, _, _, _, h => by cases h; exact .nil
  | (f, k) :: ks, _, _, _, z, t, h => by
    have z' : k.fine = true ∧ Kd.fine.fines ks = true := by simpa [Kd.fine.fines] using z
    cases h with
    | cons h1 h2 => exact .cons (ORep.freeze e k _ _ _ z'.1 (fun a ha => t a (List.mem_append_left _ ha)) h1) (OFs.freeze e ks _ _ _ z'.2 (fun a ha => t a (List.mem_append_right _ ha)) h2)
end
/-- the stable heap with A -/
def plus (Hs H : Hp) (A : List Addr) : Hp := fun a => if a ∈ A then H a else Hs a
theorem plus_same {A : List Addr} (z : ∀ a ∈ A, Hs a = none) : Same Hs (plus Hs H A) := ⟨fun b o q _ => by
  unfold plus
  rw [if_neg fun h => by rw [z b h] at q; cases q]
  exact q⟩
theorem plus_sub {A : List Addr} (e : Same Hs H) : Same (plus Hs H A) H := ⟨fun b o q nt => by
  unfold plus at q
  split at q
  · exact q
  · exact e.k _ _ q nt⟩
theorem RK.freeze {H0 : Hp} {d : D} {v : V} (g : Grow Hs H Hs' H') (f : k.fine = true) (h : RK cl k H Hs' H' d v) : ∃ Hs2, Grow Hs H Hs2 H' ∧ RK cl .val H Hs2 H' d v := by
  obtain ⟨A, o, nd, z⟩ := h
  have e := plus_same (H := H') fun a ha => (z a ha).1
  refine ⟨plus Hs' H' A, ⟨g.s.trans e, g.h, fun a q => ?_, plus_sub g.sub, g.t⟩, [], .val (ORep.freeze e k _ _ A f (fun a ha => by unfold plus; rw [if_pos ha]) o), List.nodup_nil, fun a ha => nomatch ha⟩
  unfold plus at q
  split at q
  · rename_i ha
    exact .inr (z a ha).2
  · exact g.n a q
theorem RK.val {H0 : Hp} {d : D} {v : V} (h : Rep cl Hs d v) : RK cl .val H0 Hs H d v := ⟨[], .val h, List.nodup_nil, fun a ha => nomatch ha⟩
theorem RK.bor {H0 : Hp} {d : D} {v : V} (h : Rep cl Hs d v) : RK cl .bor H0 Hs H d v := ⟨[], .borV h, List.nodup_nil, fun a ha => nomatch ha⟩
theorem RK.rep {H0 : Hp} {d : D} {v : V} (h : RK cl .val H0 Hs H d v) : Rep cl Hs d v := by
  obtain ⟨A, o, _⟩ := h
  cases o with
  | val r => exact r
theorem RK.rb {H0 : Hp} {d : D} {v : V} (h : RK cl .bor H0 Hs H d v) : RB cl Hs H d v := by
  obtain ⟨A, o, _⟩ := h
  cases o with
  | borV r => exact .val r
  | borL h1 h2 => exact .lst h1 h2
  | borK h1 h2 => exact .dct h1 h2
  | borO h0 h1 h2 => exact .obj h0 h1 h2
theorem RB.grow {d : D} {v : V} (h : RB cl Hs H d v) (g : Grow Hs H Hs' H') : RB cl Hs' H' d v := by
  cases h with
  | val r => exact .val (Rep.same g.s _ _ r)
  | lst h1 h2 => exact .lst (g.h.at _ _ h1) (RepL.same g.s _ _ h2)
  | dct h1 h2 => exact .dct (g.h.rd h1) (RepK.same g.s _ _ h2)
  | obj h0 h1 h2 => exact .obj h0 (g.h.at _ _ h1) (RBF.same g.s g.h h2)
theorem RB.rk {H0 : Hp} {d : D} {v : V} (h : RB cl Hs H d v) : RK cl .bor H0 Hs H d v := by
  refine ⟨[], ?_, List.nodup_nil, fun a ha => nomatch ha⟩
  cases h with
  | val r => exact .borV r
  | lst h1 h2 => exact .borL h1 h2
  | dct h1 h2 => exact .borK h1 h2
  | obj h0 h1 h2 => exact .borO h0 h1 h2
/-- a borrowed list -/
theorem RB.lstInv {ds : List D} {v : V} (h : RB cl Hs H (.lst ds) v) (e : Same Hs H) : ∃ a xs, v = .ref a ∧ H a = some (.lst xs) ∧ RepL cl Hs ds xs := by
  cases h with
  | val r =>
    cases r with
    | lst h1 h2 => exact ⟨_, _, rfl, e.at _ _ h1, h2⟩
  | lst h1 h2 => exact ⟨_, _, rfl, h1, h2⟩
theorem RB.tupInv {ds : List D} {v : V} (h : RB cl Hs H (.tup ds) v) (e : Same Hs H) : ∃ a xs, v = .ref a ∧ H a = some (.tup xs) ∧ RepL cl Hs ds xs := by
  cases h with
  | val r =>
    cases r with
    | tup h1 h2 => exact ⟨_, _, rfl, e.at _ _ h1, h2⟩
theorem RB.dctInv {ds : List (Key × D)} {v : V} (h : RB cl Hs H (.dct ds) v) (e : Same Hs H) : ∃ a xs, v = .ref a ∧ Rd H a (.dK xs) ∧ RepK cl Hs ds xs := by
  cases h with
  | val r =>
    cases r with
    | dct h1 h2 => exact ⟨_, _, rfl, e.rd h1, h2⟩
  | dct h1 h2 => exact ⟨_, _, rfl, h1, h2⟩
theorem RB.intInv {i : Int} {v : V} (h : RB cl Hs H (.int i) v) : v = .int i := by
  cases h with
  | val r => cases r; rfl
theorem RB.blInv {i : Bool} {v : V} (h : RB cl Hs H (.bl i) v) : v = .bl i := by
  cases h with
  | val r => cases r; rfl
theorem RB.strInv {i : Str} {v : V} (h : RB cl Hs H (.str i) v) : v = .str i := by
  cases h with
  | val r => cases r; rfl
theorem RB.nonInv {v : V} (h : RB cl Hs H .non v) : v = .non := by
  cases h with
  | val r => cases r; rfl
/-- a new list, not yet stable -/
theorem RK.ownNew {ds : List D} {xs : List V} {p : Addr} (e : Same Hs H) (hp : H p = none) (r : RepL cl Hs ds xs) : RK cl (.own none) H Hs (upd H p (.lst xs)) (.lst ds) (.ref p) :=
  ⟨[p], .ownL ⟨hp, fun _ z => nomatch z⟩ upd_same r, by simp, fun a ha => by
    have q : a = p := by simpa using ha
    subst q
    exact ⟨e.free hp, hp⟩⟩
theorem RK.ownPlain {H0 : Hp} {d : D} {v : V} (p : d.plain = true) (r : Rep cl Hs d v) : RK cl (.own none) H0 Hs H d v := ⟨[], .ownV p r, List.nodup_nil, fun a ha => nomatch ha⟩
/-- the end of a value that is plain -/
theorem Post.fin {d : D} {v : V} (P : Post cl (.own none) Hs H Q W (.ok d)) (e : Same Hs H) (p : d.plain = true) (r : Rep cl Hs d v) : Q v H := P v Hs H (Grow.refl e) (RK.ownPlain p r)
theorem Post.finV {d : D} {v : V} (P : Post cl .val Hs H Q W (.ok d)) (e : Same Hs H) (r : Rep cl Hs d v) : Q v H := P v Hs H (Grow.refl e) (RK.val r)
theorem Post.finL {ds : List D} {xs : List V} {p : Addr} (P : Post cl (.own none) Hs H Q W (.ok (.lst ds))) (e : Same Hs H) (hp : H p = none) (r : RepL cl Hs ds xs) : Q (.ref p) (upd H p (.lst xs)) :=
  P _ Hs _ (Grow.fresh e hp) (RK.ownNew e hp r)
end

/-! ### an expression's judgment: k how its value lies, g what it is -/
structure SE (X : Cx) (E : En) (ks : List Kd) (k : Kd) (e : Expr) (g : Sl → R D) : Prop where
  run : ∀ (Hs H : Hp) (r : Sl) (σ : L2.St) (W : WX) (Q : VK), Takes X W → StRel E Hs H ks r σ → Post E.cl k Hs H Q (fun c dd H' => W c dd σ H') (g r) → WEx X e σ H Q
section
variable {X : Cx} {E : En} {ks : List Kd} {e : Expr} {g : Sl → R D}
theorem SE.toVal {k : Kd} (h : SE X E ks k e g) (f : k.fine = true := by rfl) : SE X E ks .val e g := by
  refine ⟨fun Hs H r σ W Q tk S P => ?_⟩
  refine h.run Hs H r σ W Q tk S ?_
  cases q : g r with
  | stuck => rw [q] at P; exact P
  | exc x => rw [q] at P; exact P
  | ok d =>
    rw [q] at P
    intro v Hs' H' gr rk
    obtain ⟨Hs2, g2, rk2⟩ := rk.freeze (H0 := H) gr f
    exact P v Hs2 H' g2 rk2
theorem SE.valBor (h : SE X E ks .val e g) : SE X E ks .bor e g := by
  refine ⟨fun Hs H r σ W Q tk S P => ?_⟩
  refine h.run Hs H r σ W Q tk S ?_
  cases q : g r with
  | stuck => rw [q] at P; exact P
  | exc x => rw [q] at P; exact P
  | ok d =>
    rw [q] at P
    intro v Hs' H' gr rk
    exact P v Hs' H' gr (RK.bor rk.rep)
theorem SE.toBor {k : Kd} (h : SE X E ks k e g) (f : k.fine = true := by rfl) : SE X E ks .bor e g := (h.toVal f).valBor
end
end VL

noncomputable section
namespace VL
open PySem PySem.Spec PyProof.Rows L2

/-! ### names, constants -/
def NmOk (x : Str) : Prop := (x == ("__debug__" : Str)) = false ∧ (x == ("__classdict__" : Str)) = false
@[simp] def gVar (i : Nat) : Sl → R D := fun r => match r[i]? with
  | some (some d) => .ok d
  | _ => .stuck
@[simp] def gC (d : D) : Sl → R D := fun _ => .ok d
/-- a kind that may be borrowed -/
def Kd.lends : Kd → Bool
  | .obj _ ks => lendf ks
  | .adr _ => false
  | .lls _ _ => false
  | _ => true
where
  lendf : List (Str × Kd) → Bool
    | [] => true
    | (_, k) :: r => Kd.lends k && lendf r
section
variable {cl : Cl} {N : Addr → Prop} {B Hs H : Hp}
mutual
theorem ORep.rb (eb : Same B H) : ∀ (k : Kd) (d : D) (v : V) (A : List Addr), k.lends = true → ORep cl N B Hs H k d v A → RB cl Hs H d v
  | .val, _, _, _, _, h => by cases h with | val rp => exact .val rp
  | .bor, _, _, _, _, h => by
    cases h with
    | borV rp => exact .val rp
    | borL h1 h2 => exact .lst (eb.at _ _ h1) h2
    | borK h1 h2 => exact .dct (eb.rd h1) h2
    | borO h0 h1 h2 => exact .obj h0 (eb.at _ _ h1) (RBF.same (Same.refl _) eb h2)
  | .own n, _, _, _, _, h => by
    cases h with
    | ownL h0 h1 h2 => exact .lst h1 h2
    | ownK h0 h1 h2 => exact .dct (.inl h1) h2
    | ownV h0 h1 => exact .val h1
  | .obj n ks, _, _, _, l, h => by
    cases h with
    | obj h0 h1 h2 h3 => exact .obj h1 h2 (OFs.rb eb ks _ _ _ (by simpa [Kd.lends] using l) h3)
  | .adr a, _, _, _, l, _ => by cases l
  | .lls n k, _, _, _, l, _ => by cases l
theorem OFs.rb (eb : Same B H) : ∀ (ks : List (Str × Kd)) (ds : List (Str × D)) (xs : List (Str × V)) (A : List Addr), Kd.lends.lendf ks = true → OFs cl N B Hs H ks ds xs A → RBF cl Hs H ds xs
  | [], _, _, _, _, h => by cases h; exact .nil
  | (f, k) :: ks, _, _, _, l, h => by
    have l' : k.lends = true ∧ Kd.lends.lendf ks = true := by simpa [Kd.lends.lendf] using l
    cases h with
    | cons h1 h2 => exact .cons (ORep.rb eb k _ _ _ l'.1 h1) (OFs.rb eb ks _ _ _ l'.2 h2)
end
end
section
variable {X : Cx} {E : En} {ks : List Kd}
theorem StRel.get {Hs H : Hp} {r : Sl} {σ : L2.St} {i : Nat} {k : Kd} {d : D} (S : StRel E Hs H ks r σ) (hk : ks[i]? = some k) (hd : r[i]? = some (some d)) : ∃ v A, σ[i]? = some (some v) ∧ ORep E.cl E.N E.b Hs H k d v A := by
  obtain ⟨As, s⟩ := S
  obtain ⟨pre, A, post, _, h, _⟩ := s.sl.at_ i hk
  obtain ⟨v, e, o⟩ := h d hd
  exact ⟨v, A, e, o⟩
theorem gVar_ok {i : Nat} {r : Sl} {d : D} (h : gVar i r = .ok d) : r[i]? = some (some d) := by
  unfold gVar at h
  split at h
  · rename_i d' e
    cases h
    exact e
  · cases h
theorem gVar_exc {i : Nat} {r : Sl} {x : Exc} (h : gVar i r = .exc x) : False := by
  unfold gVar at h
  split at h <;> cases h
theorem se_var {i : Nat} {x : Str} {pos : Pos} (hk : ks[i]? = some .val := by rfl) (hN : X.N[i]? = some x := by rfl) (hv : Vis X.env.scope x := by first | exact Or.inl rfl | exact Or.inr (Or.inl rfl) | exact Or.inr (Or.inr rfl))
    (hq : NmOk x) : SE X E ks .val (.Name x pos) (gVar i) := by
  refine ⟨fun Hs H r σ W Q tk S P => ?_⟩
  refine we_of (pe_var hN hv hq.1 hq.2) ?_
  cases q : gVar i r with
  | stuck => rw [q] at P; exact P.elim
  | exc x => exact (gVar_exc q).elim
  | ok d =>
    rw [q] at P
    obtain ⟨v, A, e, o⟩ := S.get hk (gVar_ok q)
    cases o with
    | val rp => exact ⟨v, e, P.finV S.sub rp⟩
theorem se_varB {i : Nat} {k : Kd} {x : Str} {pos : Pos} (hk : ks[i]? = some k := by rfl) (hl : k.lends = true := by rfl) (hN : X.N[i]? = some x := by rfl) (hv : Vis X.env.scope x := by first | exact Or.inl rfl | exact Or.inr (Or.inl rfl) | exact Or.inr (Or.inr rfl))
    (hq : NmOk x) : SE X E ks .bor (.Name x pos) (gVar i) := by
  refine ⟨fun Hs H r σ W Q tk S P => ?_⟩
  refine we_of (pe_var hN hv hq.1 hq.2) ?_
  cases q : gVar i r with
  | stuck => rw [q] at P; exact P.elim
  | exc x => exact (gVar_exc q).elim
  | ok d =>
    rw [q] at P
    obtain ⟨v, A, e, o⟩ := S.get hk (gVar_ok q)
    have eb : Same E.b H := let ⟨_, s⟩ := S; s.eb
    exact ⟨v, e, P v Hs H (Grow.refl S.sub) (RB.rk (ORep.rb eb k _ _ _ hl o))⟩
theorem se_int {i : Int} {j : Nat} {pos : Pos} : SE X E ks .val (.Constant (.int i) j pos) (gC (.int i)) := ⟨fun Hs H r σ W Q tk S P => we_of pe_int (P.finV S.sub (.int i))⟩
theorem se_bl {b : Bool} {j : Nat} {pos : Pos} : SE X E ks .val (.Constant (.bool b) j pos) (gC (.bl b)) := ⟨fun Hs H r σ W Q tk S P => we_of pe_bl (P.finV S.sub (.bl b))⟩
theorem se_non {j : Nat} {pos : Pos} : SE X E ks .val (.Constant .none j pos) (gC .non) := ⟨fun Hs H r σ W Q tk S P => we_of pe_non (P.finV S.sub .non)⟩
theorem se_str {x : Str} {j : Nat} {pos : Pos} : SE X E ks .val (.Constant (.str x) j pos) (gC (.str x)) := ⟨fun Hs H r σ W Q tk S P => we_of pe_str (P.finV S.sub (.str x))⟩
/-- a module's constant: a number, a text -/
theorem se_globI {x : Str} {i : Int} {t : Tok} {pos : Pos} (hm : X.mg x = some (.int i t)) (hq : NmOk x) (hg : Gl X x := by rfl) : SE X E ks .val (.Name x pos) (gC (.int i)) :=
  ⟨fun Hs H r σ W Q tk S P => we_of (pe_glob (v := .int i) hg hm ⟨t, rfl⟩ hq.1) (P.finV S.sub (.int i))⟩
theorem se_globS {x y : Str} {t : Tok} {pos : Pos} (hm : X.mg x = some (.str y t)) (hq : NmOk x) (hg : Gl X x := by rfl) : SE X E ks .val (.Name x pos) (gC (.str y)) :=
  ⟨fun Hs H r σ W Q tk S P => we_of (pe_glob (v := .str y) hg hm ⟨t, rfl⟩ hq.1) (P.finV S.sub (.str y))⟩
end

/-! ### operators by values -/
def OpV (K : PySem.W.Frag) (rr : R2) (k : Kd) (f : D → D → R D) : Prop :=
  ∀ (cl : Cl) (Hs H : Hp) (d1 d2 : D) (v1 v2 : V) (Q : VK) (W : WX0), Same Hs H → RB cl Hs H d1 v1 → RB cl Hs H d2 v2 → Post cl k Hs H Q W (f d1 d2) → (∀ x, f d1 d2 ≠ .exc x) → rr v1 v2 H Q
@[simp] def gBin (f : D → D → R D) (ga gb : Sl → R D) : Sl → R D := fun r => do
  let a ← ga r
  let b ← gb r
  f a b
def NoX (f : D → D → R D) : Prop := ∀ a b x, f a b ≠ .exc x
section
variable {X : Cx} {E : En} {ks : List Kd} {k : Kd} {a b : Expr} {ga gb : Sl → R D} {f : D → D → R D} {pos : Pos}
theorem bin_read {rr : R2} (hv : OpV X.K rr k f) (nx : NoX f) (ha : SE X E ks .bor a ga) (hb : SE X E ks .bor b gb) {Hs H : Hp} {r : Sl} {σ : L2.St} {W : WX} {Q : VK} (tk : Takes X W) (S : StRel E Hs H ks r σ)
    (P : Post E.cl k Hs H Q (fun c dd H' => W c dd σ H') (gBin f ga gb r)) : WEx X a σ H fun x H1 => WEx X b σ H1 fun y H2 => rr x y H2 Q := by
  refine ha.run _ _ _ _ _ _ tk S (P.imp fun d1 v1 Hs1 H1 e1 g1 k1 P1 => ?_)
  refine hb.run _ _ _ _ _ _ tk (S.grow g1) (P1.imp fun d2 v2 Hs2 H2 e2 g2 k2 P2 => ?_)
  exact hv _ _ _ _ _ _ _ _ _ g2.sub (k1.rb.grow g2) k2.rb P2 (nx _ _)
theorem se_bin {op : Operator} {rr : R2} (ho : OpR X (binaryOp op) rr) (hv : OpV X.K rr k f) (nx : NoX f) (ha : SE X E ks .bor a ga) (hb : SE X E ks .bor b gb) : SE X E ks k (.BinOp a op b pos) (gBin f ga gb) :=
  ⟨fun Hs H r σ W Q tk S P => we_of (pe_op ho pe_we pe_we) (bin_read hv nx ha hb tk S P)⟩
theorem se_cmp {op : CmpOp} {rr : R2} (ho : OpR X (compareOp op) rr) (hv : OpV X.K rr k f) (nx : NoX f) (ha : SE X E ks .bor a ga) (hb : SE X E ks .bor b gb) (hm : behindInMarks op b = false := by rfl) : SE X E ks k (.Compare a [op] [b] pos) (gBin f ga gb) :=
  ⟨fun Hs H r σ W Q tk S P => we_of (pe_cmpR ho pe_we pe_we hm) (bin_read hv nx ha hb tk S P)⟩
end

/-! ### whole numbers, texts, lists -/
/-! bounds that Lean's kernel can't unfold: a whole number's recursion over 2 ^ 24 would break it -/
theorem oN_ex (n : Nat) : ∃ m : Nat, m = n := ⟨n, rfl⟩
theorem oI_ex (n : Int) : ∃ m : Int, m = n := ⟨n, rfl⟩
def szL : Nat := Classical.choose (oN_ex 16777216)
theorem szL_val : szL = 16777216 := Classical.choose_spec (oN_ex 16777216)
def i62 : Int := Classical.choose (oI_ex (2 ^ 62))
theorem i62_val : i62 = 2 ^ 62 := Classical.choose_spec (oI_ex (2 ^ 62))
def i63 : Int := Classical.choose (oI_ex (2 ^ 63))
theorem i63_val : i63 = 2 ^ 63 := Classical.choose_spec (oI_ex (2 ^ 63))
def i64 : Int := Classical.choose (oI_ex (2 ^ 64))
theorem i64_val : i64 = 2 ^ 64 := Classical.choose_spec (oI_ex (2 ^ 64))
def n64 : Nat := Classical.choose (oN_ex (2 ^ 64))
theorem n64_val : n64 = 2 ^ 64 := Classical.choose_spec (oN_ex (2 ^ 64))
def n30 : Nat := Classical.choose (oN_ex 1073741824)
theorem n30_val : n30 = 1073741824 := Classical.choose_spec (oN_ex 1073741824)
def iMil : Int := Classical.choose (oI_ex 1000000)
theorem iMil_val : iMil = 1000000 := Classical.choose_spec (oI_ex 1000000)
theorem szL_eq : (sizeLine : Nat) = szL := by rw [sizeLine_eq, szL_val]
theorem le_szL {n : Nat} (h : n ≤ 16777216) : n ≤ szL := by rw [szL_val]; exact h
theorem lt_szL {n : Nat} (h : n < 16777216) : n < szL := by rw [szL_val]; exact h
@[simp] def dAdd : D → D → R D
  | .int i, .int j => .ok (.int (i + j))
  | .str x, .str y => if x.length + y.length ≤ szL then .ok (.str (x ++ y)) else .stuck
  | .lst xs, .lst ys => if xs.length + ys.length ≤ szL then .ok (.lst (xs ++ ys)) else .stuck
  | .tup xs, .tup ys => if xs ≠ [] ∧ xs.length + ys.length ≤ szL then .ok (.tup (xs ++ ys)) else .stuck
  | _, _ => .stuck

theorem RepL.nilInv {cl : Cl} {H : Hp} {ds : List D} {xs : List V} (r : RepL cl H ds xs) : xs = [] ↔ ds = [] := by
  cases r with
  | nil => simp
  | cons _ _ => simp
theorem opv_add {X : Cx} : OpV X.K (fun x y H Q => (rI0 (fun i j => .int (i + j)) x y H Q ∨ (∃ i j, x = .str i ∧ y = .str j ∧ i.length + j.length ≤ sizeLine ∧ Q (.str (i ++ j)) H)) ∨ (rCat x y H Q ∨ rCatT X.K x y H Q)) (.own none) dAdd := by
  intro cl Hs H d1 d2 v1 v2 Q W e b1 b2 P nx
  cases d1 <;> cases d2 <;> first | exact P.elim | skip
  · cases b1.intInv
    cases b2.intInv
    exact .inl (.inl ⟨_, _, rfl, rfl, P.fin e rfl (.int _)⟩)
  · cases b1.strInv
    cases b2.strInv
    dsimp only [dAdd] at P
    split at P
    · rename_i h
      exact .inl (.inr ⟨_, _, rfl, rfl, by rw [szL_eq]; exact h, P.fin e rfl (.str _)⟩)
    · exact P.elim
  · dsimp only [dAdd] at P
    split at P
    · rename_i h
      obtain ⟨a, xs, rfl, h1, r1⟩ := b1.lstInv e
      obtain ⟨b, ys, rfl, h2, r2⟩ := b2.lstInv e
      exact .inr (.inl ⟨a, b, xs, ys, rfl, rfl, h1, h2, by rw [szL_eq, r1.length, r2.length]; exact h, fun p hp => P.finL e hp (r1.app r2)⟩)
    · exact P.elim
  · dsimp only [dAdd] at P
    split at P
    · rename_i h
      obtain ⟨n1, h⟩ := h
      have b1' := b1
      obtain ⟨a, xs, rfl, h1, r1⟩ := b1.tupInv e
      obtain ⟨b, ys, rfl, h2, r2⟩ := b2.tupInv e
      refine .inr (.inr ⟨a, b, xs, ys, rfl, rfl, SqT.of h1, SqT.of h2, fun z => n1 (r1.nilInv.mp z), by rw [szL_eq, r1.length, r2.length]; exact h, fun z => ?_, fun _ p hp => ?_⟩)
      · rw [r2.nilInv.mp z, List.append_nil] at P
        cases b1' with
        | val rr => exact P.fin e rfl rr
      · exact P _ _ _ (Grow.new e hp) (RK.ownPlain rfl (.tup upd_same (RepL.same (Same.updNew (e.free hp)) _ _ (r1.app r2))))
    · exact P.elim
@[simp] def dSub : D → D → R D
  | .int i, .int j => .ok (.int (i - j))
  | _, _ => .stuck
/-- a product that the model reckons -/
def w600 : Nat := Classical.choose (oN_ex (2 ^ 2000))
theorem w600_val : w600 = 2 ^ 2000 := Classical.choose_spec (oN_ex (2 ^ 2000))
def wideOk (i j : Int) : Bool := decide (i.natAbs < w600) && decide (j.natAbs < w600)
def mulOk (i j : Int) : Bool := ((decide (-i64 < i) && decide (i < i64)) || (decide (-i64 < j) && decide (j < i64))) || wideOk i j
@[simp] def dMul : D → D → R D
  | .int i, .int j => if mulOk i j then .ok (.int (i * j)) else .stuck
  | .lst xs, .int k => if -i63 ≤ k ∧ k < i63 ∧ xs.length * k.toNat ≤ szL then .ok (.lst (List.replicate k.toNat xs).flatten) else .stuck
  | _, _ => .stuck
@[simp] def dFdiv : D → D → R D
  | .int i, .int j => if (j ≠ 0 ∧ j.natAbs < n30) ∨ (0 < j ∧ j.natAbs < w600) then .ok (.int (i.fdiv j)) else .stuck
  | _, _ => .stuck
@[simp] def dMod : D → D → R D
  | .int i, .int j => if j ≠ 0 then .ok (.int (i.fmod j)) else .stuck
  | _, _ => .stuck
def dPow : D → D → R D
  | .int i, .int j => if 0 ≤ j ∧ j ≤ iMil ∧ i.natAbs < n64 then .ok (.int (i ^ j.toNat)) else .stuck
  | _, _ => .stuck
@[simp] def dNeg : D → R D
  | .int i => .ok (.int (-i))
  | _ => .stuck
theorem opv_int2 {K : PySem.W.Frag} {f : D → D → R D} {C : Int → Int → Prop} {g : Int → Int → Int} (h : ∀ d1 d2, f d1 d2 ≠ .stuck → ∃ i j, d1 = .int i ∧ d2 = .int j ∧ C i j ∧ f d1 d2 = .ok (.int (g i j))) : OpV K (rI C fun i j => .int (g i j)) .val f := by
  intro cl Hs H d1 d2 v1 v2 Q W e b1 b2 P nx
  have ns : f d1 d2 ≠ .stuck := fun z => by rw [z] at P; exact P
  obtain ⟨i, j, rfl, rfl, c, q⟩ := h _ _ ns
  cases b1.intInv
  cases b2.intInv
  rw [q] at P
  exact ⟨i, j, rfl, rfl, c, P.finV e (.int _)⟩
theorem opv_int0 {K : PySem.W.Frag} {f : D → D → R D} {g : Int → Int → V} {gd : Int → Int → D} (h : ∀ d1 d2, f d1 d2 ≠ .stuck → ∃ i j, d1 = .int i ∧ d2 = .int j ∧ f d1 d2 = .ok (gd i j)) (hr : ∀ cl H i j, Rep cl H (gd i j) (g i j)) : OpV K (rI0 g) .val f := by
  intro cl Hs H d1 d2 v1 v2 Q W e b1 b2 P nx
  have ns : f d1 d2 ≠ .stuck := fun z => by rw [z] at P; exact P
  obtain ⟨i, j, rfl, rfl, q⟩ := h _ _ ns
  cases b1.intInv
  cases b2.intInv
  rw [q] at P
  exact ⟨i, j, rfl, rfl, P.finV e (hr _ _ _ _)⟩
theorem opv_sub {X : Cx} : OpV X.K (rI0 fun i j => .int (i - j)) .val dSub := opv_int0 (gd := fun i j => .int (i - j)) (fun d1 d2 ns => by
  cases d1 <;> cases d2 <;> first | exact (ns rfl).elim | exact ⟨_, _, rfl, rfl, rfl⟩) fun _ _ _ _ => .int _
theorem opv_fdiv {X : Cx} : OpV X.K (fun x y H Q => rI CDivN (fun i j => .int (i.fdiv j)) x y H Q ∨ rI CDivW (fun i j => .int (i / j)) x y H Q) .val dFdiv := by
  intro cl Hs H d1 d2 v1 v2 Q W e b1 b2 P nx
  cases d1 <;> cases d2 <;> first | exact P.elim | skip
  cases b1.intInv
  cases b2.intInv
  rename_i i j
  dsimp only [dFdiv] at P
  split at P
  · rename_i h
    by_cases c : j ≠ 0 ∧ j.natAbs < n30
    · exact .inl ⟨_, _, rfl, rfl, by have z := c; rw [n30_val] at z; exact z, P.finV e (.int _)⟩
    · have h2 := h.resolve_left c
      rw [Int.fdiv_eq_ediv_of_nonneg i (by omega)] at P
      exact .inr ⟨_, _, rfl, rfl, wide_div (b := 2000) h2.1 (by have z := h2.2; rw [w600_val] at z; exact z) (by decide) (by decide), P.finV e (.int _)⟩
  · exact P.elim
theorem opv_mod {X : Cx} : OpV X.K (rI (fun _ j => j ≠ 0) fun i j => .int (i.fmod j)) .val dMod := opv_int2 fun d1 d2 ns => by
  cases d1 <;> cases d2 <;> first | exact (ns rfl).elim | skip
  dsimp only [dMod] at ns ⊢
  split at ns
  · rename_i h
    exact ⟨_, _, rfl, rfl, h, by rw [if_pos h]⟩
  · exact (ns rfl).elim
theorem opv_pow {X : Cx} : OpV X.K (rI CPow fun i j => .int (i ^ j.toNat)) .val dPow := opv_int2 fun d1 d2 ns => by
  cases d1 <;> cases d2 <;> first | exact (ns rfl).elim | skip
  dsimp only [dPow] at ns ⊢
  split at ns
  · rename_i h
    exact ⟨_, _, rfl, rfl, by have z := h; rw [iMil_val, n64_val] at z; exact z, by rw [if_pos h]⟩
  · exact (ns rfl).elim
theorem mulOk_iff {i j : Int} (h : mulOk i j = true) : CMul i j ∨ CMulW i j := by
  unfold mulOk wideOk at h
  simp only [Bool.or_eq_true, Bool.and_eq_true, decide_eq_true_eq, i64_val, w600_val] at h
  rcases h with h | h
  · exact .inl h
  · exact .inr (wide_mul (a := 2000) (b := 2000) h.1 h.2 (by decide) (by decide) (by decide))
theorem RepL.rep {cl : Cl} {H : Hp} {ds : List D} {vs : List V} (h : RepL cl H ds vs) : ∀ k : Nat, RepL cl H (List.replicate k ds).flatten (List.replicate k vs).flatten
  | 0 => .nil
  | k + 1 => by
    rw [List.replicate_succ, List.replicate_succ, List.flatten_cons, List.flatten_cons]
    exact h.app (RepL.rep h k)
theorem opv_mul {X : Cx} : OpV X.K (fun x y H Q => (rI CMul (fun i j => .int (i * j)) x y H Q ∨ rI CMulW (fun i j => .int (i * j)) x y H Q) ∨ rRep x y H Q) (.own none) dMul := by
  intro cl Hs H d1 d2 v1 v2 Q W e b1 b2 P nx
  cases d1 <;> cases d2 <;> first | exact P.elim | skip
  · cases b1.intInv
    cases b2.intInv
    dsimp only [dMul] at P
    split at P
    · rename_i h
      rcases mulOk_iff h with h | h
      · exact .inl (.inl ⟨_, _, rfl, rfl, h, P.fin e rfl (.int _)⟩)
      · exact .inl (.inr ⟨_, _, rfl, rfl, h, P.fin e rfl (.int _)⟩)
    · exact P.elim
  · cases b2.intInv
    dsimp only [dMul] at P
    split at P
    · rename_i h
      obtain ⟨a, xs, rfl, h1, r1⟩ := b1.lstInv e
      refine .inr ⟨a, _, xs, rfl, rfl, h1, by have := h.1; rw [i63_val] at this; exact this, by have := h.2.1; rw [i63_val] at this; exact this, by rw [szL_eq, r1.length]; exact h.2.2, fun p hp => P.finL e hp (r1.rep _)⟩
    · exact P.elim
theorem nox_add : NoX dAdd := fun a b x h => by
  cases a <;> cases b <;> dsimp only [dAdd] at h <;> first | (split at h <;> cases h) | cases h
theorem nox_sub : NoX dSub := fun a b x h => by cases a <;> cases b <;> exact (nomatch h)
theorem nox_mul : NoX dMul := fun a b x h => by
  cases a <;> cases b <;> dsimp only [dMul] at h <;> first | (split at h <;> cases h) | cases h
theorem nox_fdiv : NoX dFdiv := fun a b x h => by
  cases a <;> cases b <;> dsimp only [dFdiv] at h <;> first | (split at h <;> cases h) | cases h
theorem nox_mod : NoX dMod := fun a b x h => by
  cases a <;> cases b <;> dsimp only [dMod] at h <;> first | (split at h <;> cases h) | cases h
theorem nox_pow : NoX dPow := fun a b x h => by
  cases a <;> cases b <;> dsimp only [dPow] at h <;> first | (split at h <;> cases h) | cases h
section
variable {X : Cx} {E : En} {ks : List Kd} {a b : Expr} {ga gb : Sl → R D} {pos : Pos}
theorem se_add (ha : SE X E ks .bor a ga) (hb : SE X E ks .bor b gb) : SE X E ks (.own none) (.BinOp a .Add b pos) (gBin dAdd ga gb) :=
  se_bin ((op_add.or op_add_str).or (op_cat.or op_catT)) opv_add nox_add ha hb
theorem se_sub (ha : SE X E ks .bor a ga) (hb : SE X E ks .bor b gb) : SE X E ks .val (.BinOp a .Sub b pos) (gBin dSub ga gb) := se_bin op_sub opv_sub nox_sub ha hb
theorem se_mul (ha : SE X E ks .bor a ga) (hb : SE X E ks .bor b gb) : SE X E ks (.own none) (.BinOp a .Mult b pos) (gBin dMul ga gb) := se_bin ((op_mul.or op_mulW).or op_rep) opv_mul nox_mul ha hb
theorem se_fdiv (ha : SE X E ks .bor a ga) (hb : SE X E ks .bor b gb) : SE X E ks .val (.BinOp a .FloorDiv b pos) (gBin dFdiv ga gb) := se_bin (op_fdivN.or op_fdivW) opv_fdiv nox_fdiv ha hb
theorem se_mod (ha : SE X E ks .bor a ga) (hb : SE X E ks .bor b gb) : SE X E ks .val (.BinOp a .Mod b pos) (gBin dMod ga gb) := se_bin op_modN opv_mod nox_mod ha hb
theorem se_pow (ha : SE X E ks .bor a ga) (hb : SE X E ks .bor b gb) : SE X E ks .val (.BinOp a .Pow b pos) (gBin dPow ga gb) := se_bin op_pow opv_pow nox_pow ha hb
@[simp] def gUn (f : D → R D) (ga : Sl → R D) : Sl → R D := fun r => do
  let a ← ga r
  f a
theorem se_neg (ha : SE X E ks .bor a ga) : SE X E ks .val (.UnaryOp .USub a pos) (gUn dNeg ga) := by
  refine ⟨fun Hs H r σ W Q tk S P => ?_⟩
  refine we_of (pe_un un_neg pe_we) ?_
  refine ha.run _ _ _ _ _ _ tk S (P.imp fun d v Hs1 H1 e1 g1 k1 P1 => ?_)
  cases d <;> first | exact P1.elim | skip
  cases k1.rb.intInv
  exact ⟨_, rfl, P1.finV g1.sub (.int _)⟩
end

/-! ### comparisons -/
mutual
def toPy : D → PyData
  | .non => .none
  | .bl b => .bool b
  | .int i => .int i
  | .str x => .str x
  | .lst xs => .list (toPys xs)
  | .tup xs => .tuple (toPys xs)
  | .dct _ => .dict []
  | .obj _ _ => .dict []
  | .scr _ => .dict []
def toPys : List D → List PyData
  | [] => []
  | d :: ds => toPy d :: toPys ds
end
section
variable {cl : Cl} {K : PySem.W.Frag} {H : Hp}
mutual
theorem Rep.dp : ∀ (d : D) (v : V), (toPy d).canLay0 = true → Rep cl H d v → Dp K H v (toPy d)
  | .non, _, _, h => by cases h; exact .non
  | .bl b, _, _, h => by cases h; exact .bl b
  | .int i, _, _, h => by cases h; exact .int i
  | .str x, _, _, h => by cases h; exact .str x
  | .lst ds, _, c, h => by
    cases h with
    | lst h1 h2 => exact .lst (SqL.of h1) (RepL.dp ds _ c h2)
  | .tup ds, _, c, h => by
    cases h with
    | tup h1 h2 => exact .tup (SqT.of h1) (RepL.dp ds _ c h2)
  | .dct ds, _, c, h => by cases c
  | .obj C ds, _, c, h => by cases c
  | .scr ns, _, c, h => by cases c
theorem RepL.dp : ∀ (ds : List D) (vs : List V), PyData.canLayAll0 (toPys ds) = true → RepL cl H ds vs → DpAll K H vs (toPys ds)
  | [], _, _, h => by cases h; exact .nil
  | d :: ds, _, c, h => by
    have c' : (toPy d).canLay0 = true ∧ PyData.canLayAll0 (toPys ds) = true := by
      have q : ((toPy d).canLay0 && PyData.canLayAll0 (toPys ds)) = true := c
      simpa using q
    cases h with
    | cons h1 h2 => exact .cons (Rep.dp d _ c'.1 h1) (RepL.dp ds _ c'.2 h2)
end
theorem RB.dp {Hs : Hp} {d : D} {v : V} (e : Same Hs H) (c : (toPy d).canLay0 = true) (h : RB cl Hs H d v) : Dp K H v (toPy d) := by
  cases h with
  | val r => exact Rep.dp _ _ c (Rep.same e _ _ r)
  | lst h1 h2 => exact .lst (SqL.of h1) (RepL.dp _ _ c (RepL.same e _ _ h2))
  | dct _ _ => cases c
  | obj _ _ _ => cases c
end
def dEqB (a b : D) : Bool := PyData.eqv (toPy a) (toPy b)
def shp (a : D) : Bool := SeqAt.shaped (toPy a)
def dEq : D → D → R D := fun a b => if shp a && shp b then .ok (.bl (dEqB a b)) else .stuck
def dNe : D → D → R D := fun a b => if shp a && shp b then .ok (.bl (!dEqB a b)) else .stuck
theorem nox_eq : NoX dEq := fun a b x h => by unfold dEq at h; split at h <;> cases h
theorem nox_ne : NoX dNe := fun a b x h => by unfold dNe at h; split at h <;> cases h
theorem opv_eq {X : Cx} : OpV X.K (rEqD X.K) .val dEq := by
  intro cl Hs H d1 d2 v1 v2 Q W e b1 b2 P nx
  unfold dEq at P
  split at P
  · rename_i h
    have h' : shp d1 = true ∧ shp d2 = true := by simpa using h
    exact ⟨toPy d1, toPy d2, b1.dp e (SeqAt.canLay_of_shaped h'.1), b2.dp e (SeqAt.canLay_of_shaped h'.2), h'.1, h'.2, P.finV e (.bl _)⟩
  · exact P.elim
theorem opv_ne {X : Cx} : OpV X.K (rNeD X.K) .val dNe := by
  intro cl Hs H d1 d2 v1 v2 Q W e b1 b2 P nx
  unfold dNe at P
  split at P
  · rename_i h
    have h' : shp d1 = true ∧ shp d2 = true := by simpa using h
    exact ⟨toPy d1, toPy d2, b1.dp e (SeqAt.canLay_of_shaped h'.1), b2.dp e (SeqAt.canLay_of_shaped h'.2), h'.1, h'.2, P.finV e (.bl _)⟩
  · exact P.elim
@[simp] def dLt : D → D → R D
  | .int i, .int j => .ok (.bl (decide (i < j)))
  | _, _ => .stuck
@[simp] def dLe : D → D → R D
  | .int i, .int j => .ok (.bl (decide (i ≤ j)))
  | _, _ => .stuck
@[simp] def dGt : D → D → R D
  | .int i, .int j => .ok (.bl (decide (j < i)))
  | _, _ => .stuck
@[simp] def dGe : D → D → R D
  | .int i, .int j => .ok (.bl (decide (j ≤ i)))
  | _, _ => .stuck
theorem nox_lt : NoX dLt := fun a b x h => by cases a <;> cases b <;> exact (nomatch h)
theorem nox_le : NoX dLe := fun a b x h => by cases a <;> cases b <;> exact (nomatch h)
theorem nox_gt : NoX dGt := fun a b x h => by cases a <;> cases b <;> exact (nomatch h)
theorem nox_ge : NoX dGe := fun a b x h => by cases a <;> cases b <;> exact (nomatch h)
theorem opv_lt {X : Cx} : OpV X.K (rI0 fun i j => .bl (decide (i < j))) .val dLt := opv_int0 (gd := fun i j => .bl (decide (i < j))) (fun d1 d2 ns => by
  cases d1 <;> cases d2 <;> first | exact (ns rfl).elim | exact ⟨_, _, rfl, rfl, rfl⟩) fun _ _ _ _ => .bl _
theorem opv_le {X : Cx} : OpV X.K (rI0 fun i j => .bl (decide (i ≤ j))) .val dLe := opv_int0 (gd := fun i j => .bl (decide (i ≤ j))) (fun d1 d2 ns => by
  cases d1 <;> cases d2 <;> first | exact (ns rfl).elim | exact ⟨_, _, rfl, rfl, rfl⟩) fun _ _ _ _ => .bl _
theorem opv_gt {X : Cx} : OpV X.K (rI0 fun i j => .bl (decide (j < i))) .val dGt := opv_int0 (gd := fun i j => .bl (decide (j < i))) (fun d1 d2 ns => by
  cases d1 <;> cases d2 <;> first | exact (ns rfl).elim | exact ⟨_, _, rfl, rfl, rfl⟩) fun _ _ _ _ => .bl _
theorem opv_ge {X : Cx} : OpV X.K (rI0 fun i j => .bl (decide (j ≤ i))) .val dGe := opv_int0 (gd := fun i j => .bl (decide (j ≤ i))) (fun d1 d2 ns => by
  cases d1 <;> cases d2 <;> first | exact (ns rfl).elim | exact ⟨_, _, rfl, rfl, rfl⟩) fun _ _ _ _ => .bl _
section
variable {X : Cx} {E : En} {ks : List Kd} {a b : Expr} {ga gb : Sl → R D} {pos : Pos}
theorem se_eq (hu : X.A.units + 64 < cLine) (ha : SE X E ks .bor a ga) (hb : SE X E ks .bor b gb) : SE X E ks .val (.Compare a [.Eq] [b] pos) (gBin dEq ga gb) := se_cmp (op_eqD hu) opv_eq nox_eq ha hb (nomark _)
theorem se_ne (hu : X.A.units + 64 < cLine) (ha : SE X E ks .bor a ga) (hb : SE X E ks .bor b gb) : SE X E ks .val (.Compare a [.NotEq] [b] pos) (gBin dNe ga gb) := se_cmp (op_neD hu) opv_ne nox_ne ha hb (nomark _)
theorem se_lt (ha : SE X E ks .bor a ga) (hb : SE X E ks .bor b gb) : SE X E ks .val (.Compare a [.Lt] [b] pos) (gBin dLt ga gb) := se_cmp op_lt opv_lt nox_lt ha hb (nomark _)
theorem se_le (ha : SE X E ks .bor a ga) (hb : SE X E ks .bor b gb) : SE X E ks .val (.Compare a [.LtE] [b] pos) (gBin dLe ga gb) := se_cmp op_le opv_le nox_le ha hb (nomark _)
theorem se_gt (ha : SE X E ks .bor a ga) (hb : SE X E ks .bor b gb) : SE X E ks .val (.Compare a [.Gt] [b] pos) (gBin dGt ga gb) := se_cmp op_gt opv_gt nox_gt ha hb (nomark _)
theorem se_ge (ha : SE X E ks .bor a ga) (hb : SE X E ks .bor b gb) : SE X E ks .val (.Compare a [.GtE] [b] pos) (gBin dGe ga gb) := se_cmp op_ge opv_ge nox_ge ha hb (nomark _)
end
end VL
end

noncomputable section
namespace VL
open PySem PySem.Spec PyProof.Rows L2

/-! ### tests -/
def PostT (cl : Cl) (Hs H : Hp) (Q : Bool → Hp → Prop) (W : WX0) : R Bool → Prop
  | .stuck => False
  | .exc x => ∀ c dd Hs' H', Grow Hs H Hs' H' → XRep cl Hs' H' x c dd → W c dd H'
  | .ok b => ∀ Hs' H', Grow Hs H Hs' H' → Q b H'
theorem PostT.grow {cl : Cl} {Hs H Hs' H' : Hp} {Q : Bool → Hp → Prop} {W : WX0} {r : R Bool} (P : PostT cl Hs H Q W r) (g : Grow Hs H Hs' H') : PostT cl Hs' H' Q W r := by
  cases r with
  | stuck => exact P
  | exc x => exact fun c dd Hs2 H2 g2 x2 => P c dd Hs2 H2 (g.trans g2) x2
  | ok d => exact fun Hs2 H2 g2 => P Hs2 H2 (g.trans g2)
structure ST (X : Cx) (E : En) (ks : List Kd) (e : Expr) (g : Sl → R Bool) : Prop where
  run : ∀ (Hs H : Hp) (r : Sl) (σ : L2.St) (W : WX) (Q : Bool → Hp → Prop), Takes X W → StRel E Hs H ks r σ → PostT E.cl Hs H Q (fun c dd H' => W c dd σ H') (g r) → WTx X e σ H Q
def WWx (X : Cx) (e : Expr) : TT := fun σ H Q => ∀ (whole : Sem Value) (pins : List (Addr × Obj)) (s : Shared), Inv X pins σ H s → wpAny (model X.prog X.w) X.A (isTrue e X.env whole) (TP X pins σ Q) X.xe s
theorem pw_ww {X : Cx} {e : Expr} : PW X e (WWx X e) := ⟨fun whole pins s _ _ _ I h => h whole pins s I⟩
theorem ww_of {X : Cx} {e : Expr} {t : TT} {σ : L2.St} {H : Hp} {Q : Bool → Hp → Prop} (p : PW X e t) (h : t σ H Q) : WWx X e σ H Q := fun whole pins s I => p.run whole pins s σ H Q I h
structure SW (X : Cx) (E : En) (ks : List Kd) (e : Expr) (g : Sl → R Bool) : Prop where
  run : ∀ (Hs H : Hp) (r : Sl) (σ : L2.St) (W : WX) (Q : Bool → Hp → Prop), Takes X W → StRel E Hs H ks r σ → PostT E.cl Hs H Q (fun c dd H' => W c dd σ H') (g r) → WWx X e σ H Q
/-- a bool -/
@[simp] def asB : D → R Bool
  | .bl b => .ok b
  | _ => .stuck
/-- truth -/
@[simp] def dTruth : D → R Bool
  | .non => .ok false
  | .bl b => .ok b
  | .int i => .ok (i != 0)
  | .str x => if x.length ≤ szL then .ok (((x.length : Nat) : Int) != 0) else .stuck
  | .lst xs => .ok (!xs.isEmpty)
  | .tup xs => .ok (!xs.isEmpty)
  | _ => .stuck
@[simp] def gTest (g : Sl → R D) : Sl → R Bool := fun r => do
  let d ← g r
  asB d
@[simp] def gTruth (g : Sl → R D) : Sl → R Bool := fun r => do
  let d ← g r
  dTruth d
@[simp] def gB (g : Sl → R Bool) : Sl → R D := fun r => do
  let b ← g r
  .ok (.bl b)
section
variable {X : Cx} {E : En} {ks : List Kd} {a b c e : Expr} {ga gb g : Sl → R D} {ta tb tc : Sl → R Bool} {rest : List Expr} {pos : Pos}
theorem Post.ofT {cl : Cl} {k : Kd} {Hs H : Hp} {Q : Bool → Hp → Prop} {W : WX0} {r : R D} {f : D → R Bool} (P : PostT cl Hs H Q W (r >>= f)) {Q1 : VK}
    (h : ∀ d v Hs' H', r = .ok d → Grow Hs H Hs' H' → RK cl k H Hs' H' d v → PostT cl Hs' H' Q W (f d) → Q1 v H') : Post cl k Hs H Q1 W r := by
  cases r with
  | stuck => exact P
  | exc x => exact P
  | ok d => exact fun v Hs' H' g rk => h d v Hs' H' rfl g rk (PostT.grow (r := f d) P g)
theorem PostT.imp {cl : Cl} {Hs H : Hp} {Q Q1 : Bool → Hp → Prop} {W : WX0} {r : R Bool} {f : Bool → R Bool} (P : PostT cl Hs H Q W (r >>= f))
    (h : ∀ b Hs' H', r = .ok b → Grow Hs H Hs' H' → PostT cl Hs' H' Q W (f b) → Q1 b H') : PostT cl Hs H Q1 W r := by
  cases r with
  | stuck => exact P
  | exc x => exact P
  | ok d => exact fun Hs' H' g => h d Hs' H' rfl g (PostT.grow (r := f d) P g)
theorem PostT.to {cl : Cl} {k : Kd} {Hs H : Hp} {Q1 : Bool → Hp → Prop} {Q : VK} {W : WX0} {r : R Bool} {f : Bool → R D} (P : Post cl k Hs H Q W (r >>= f))
    (h : ∀ b Hs' H', r = .ok b → Grow Hs H Hs' H' → Post cl k Hs' H' Q W (f b) → Q1 b H') : PostT cl Hs H Q1 W r := by
  cases r with
  | stuck => exact P
  | exc x => exact P
  | ok d => exact fun Hs' H' g => h d Hs' H' rfl g (Post.grow (r := f d) P g)
/-- an expression that gives a bool, as a test -/
theorem st_val (h : SE X E ks .bor e g) (he : ∀ whole, isTrue e X.env whole = (do let v ← whole; standAt e.pos; holding [v] (truthy v)) := by intro _; rfl) : ST X E ks e (gTest g) := by
  refine ⟨fun Hs H r σ W Q tk S P => ?_⟩
  refine wt_of (pt_val pe_we he) ?_
  refine h.run _ _ _ _ _ _ tk S (Post.ofT P fun d v Hs' H' e1 g1 k1 P1 => ?_)
  cases d <;> first | exact P1.elim | skip
  cases k1.rb.blInv
  exact ⟨_, rfl, P1 Hs' H' (Grow.refl g1.sub)⟩
/-- a comparison as a test -/
theorem st_cmp {op : CmpOp} {rr : R2} {f : D → D → R D} (ho : OpR X (compareOp op) rr) (hv : OpV X.K rr .val f) (nx : NoX f) (ha : SE X E ks .bor a ga) (hb : SE X E ks .bor b gb) (hm : behindInMarks op b = false := by rfl) : ST X E ks (.Compare a [op] [b] pos) (gTest (gBin f ga gb)) := by
  refine ⟨fun Hs H r σ W Q tk S P => ?_⟩
  refine wt_of (pt_cmpR ho pe_we pe_we hm) ?_
  refine bin_read hv nx ha hb tk S (Post.ofT P fun d v Hs' H' e1 g1 k1 P1 => ?_)
  cases d <;> first | exact P1.elim | skip
  have rp := k1.rep
  cases rp
  exact ⟨_, rfl, P1 Hs' H' (Grow.refl g1.sub)⟩
theorem st_truth (h : SE X E ks .bor e g) (he : ∀ whole, isTrue e X.env whole = (do let v ← whole; standAt e.pos; holding [v] (truthy v)) := by intro _; rfl) : ST X E ks e (gTruth g) := by
  refine ⟨fun Hs H r σ W Q tk S P => ?_⟩
  refine wt_of (pt_truth pe_we he) ?_
  refine h.run _ _ _ _ _ _ tk S (Post.ofT P fun d v Hs' H' e1 g1 k1 P1 => ?_)
  cases d with
  | non =>
    cases k1.rb.nonInv
    exact ⟨false, rfl, P1 Hs' H' (Grow.refl g1.sub)⟩
  | bl b =>
    cases k1.rb.blInv
    exact ⟨b, rfl, P1 Hs' H' (Grow.refl g1.sub)⟩
  | int i =>
    cases k1.rb.intInv
    exact ⟨_, rfl, P1 Hs' H' (Grow.refl g1.sub)⟩
  | str x =>
    cases k1.rb.strInv
    dsimp only [dTruth] at P1
    split at P1
    · rename_i h
      exact ⟨_, ⟨by rw [szL_eq]; exact h, rfl⟩, P1 Hs' H' (Grow.refl g1.sub)⟩
    · exact P1.elim
  | lst ds =>
    obtain ⟨l, xs, rfl, h1, r1⟩ := k1.rb.lstInv g1.sub
    have e : (!xs.isEmpty) = !ds.isEmpty := by
      cases r1 <;> rfl
    exact ⟨_, .inl ⟨xs, SqL.of h1, rfl⟩, by rw [e]; exact P1 Hs' H' (Grow.refl g1.sub)⟩
  | tup ds =>
    obtain ⟨l, xs, rfl, h1, r1⟩ := k1.rb.tupInv g1.sub
    have e : (!xs.isEmpty) = !ds.isEmpty := by
      cases r1 <;> rfl
    exact ⟨_, .inr (.inl ⟨xs, SqT.of h1, rfl⟩), by rw [e]; exact P1 Hs' H' (Grow.refl g1.sub)⟩
  | dct _ => exact P1.elim
  | obj _ _ => exact P1.elim
  | scr _ => exact P1.elim
theorem st_of (h : SW X E ks e ta) : ST X E ks e ta := ⟨fun Hs H r σ W Q tk S P => wt_of pw_ww.pt (h.run _ _ _ _ _ _ tk S P)⟩
@[simp] def gAnd (ta tb : Sl → R Bool) : Sl → R Bool := fun r => do
  let b ← ta r
  if b then tb r else .ok false
@[simp] def gOr (ta tb : Sl → R Bool) : Sl → R Bool := fun r => do
  let b ← ta r
  if b then .ok true else tb r
@[simp] def gNot (ta : Sl → R Bool) : Sl → R Bool := fun r => do
  let b ← ta r
  .ok (!b)
theorem sw_and1 (ha : ST X E ks a ta) : SW X E ks (.BoolOp .And [a] pos) ta := ⟨fun Hs H r σ W Q tk S P => ww_of (pw_and1 pt_wt) (ha.run _ _ _ _ _ _ tk S P)⟩
theorem sw_or1 (ha : ST X E ks a ta) : SW X E ks (.BoolOp .Or [a] pos) ta := ⟨fun Hs H r σ W Q tk S P => ww_of (pw_or1 pt_wt) (ha.run _ _ _ _ _ _ tk S P)⟩
theorem sw_and (ha : ST X E ks a ta) (hb : SW X E ks (.BoolOp .And (b :: rest) pos) tb) : SW X E ks (.BoolOp .And (a :: b :: rest) pos) (gAnd ta tb) := by
  refine ⟨fun Hs H r σ W Q tk S P => ?_⟩
  refine ww_of (pw_and pt_wt pw_ww) ?_
  refine ha.run _ _ _ _ _ _ tk S (PostT.imp P fun x Hs' H' e1 g1 P1 => ?_)
  cases x with
  | true => exact hb.run _ _ _ _ _ _ tk (S.grow g1) P1
  | false => exact P1 Hs' H' (Grow.refl g1.sub)
theorem sw_or (ha : ST X E ks a ta) (hb : SW X E ks (.BoolOp .Or (b :: rest) pos) tb) : SW X E ks (.BoolOp .Or (a :: b :: rest) pos) (gOr ta tb) := by
  refine ⟨fun Hs H r σ W Q tk S P => ?_⟩
  refine ww_of (pw_or pt_wt pw_ww) ?_
  refine ha.run _ _ _ _ _ _ tk S (PostT.imp P fun x Hs' H' e1 g1 P1 => ?_)
  cases x with
  | false => exact hb.run _ _ _ _ _ _ tk (S.grow g1) P1
  | true => exact P1 Hs' H' (Grow.refl g1.sub)
theorem st_not (ha : ST X E ks a ta) : ST X E ks (.UnaryOp .Not a pos) (gNot ta) := by
  refine ⟨fun Hs H r σ W Q tk S P => ?_⟩
  refine wt_of (pt_not pt_wt) ?_
  exact ha.run _ _ _ _ _ _ tk S (PostT.imp P fun x Hs' H' e1 g1 P1 => P1 Hs' H' (Grow.refl g1.sub))
/-! as values, of bools -/
@[simp] def vAnd (ga gb : Sl → R D) : Sl → R D := fun r => do
  let d ← ga r
  let b ← asB d
  if b then gb r else .ok (.bl false)
@[simp] def vOr (ga gb : Sl → R D) : Sl → R D := fun r => do
  let d ← ga r
  let b ← asB d
  if b then .ok (.bl true) else gb r
@[simp] def dNotB : D → R D
  | .bl b => .ok (.bl (!b))
  | _ => .stuck
theorem se_one {op : PySem.BoolOp} (ha : SE X E ks .val a ga) : SE X E ks .val (.BoolOp op [a] pos) ga := ⟨fun Hs H r σ W Q tk S P => we_of (pe_one pe_we) (ha.run _ _ _ _ _ _ tk S P)⟩
theorem se_and (ha : SE X E ks .val a ga) (hb : SE X E ks .val (.BoolOp .And (b :: rest) pos) gb) : SE X E ks .val (.BoolOp .And (a :: b :: rest) pos) (vAnd ga gb) := by
  refine ⟨fun Hs H r σ W Q tk S P => ?_⟩
  refine we_of (pe_and pe_we pe_we) ?_
  refine ha.run _ _ _ _ _ _ tk S (Post.imp (F := fun d => asB d >>= fun b => if b then gb r else .ok (.bl false)) P fun d v Hs' H' e1 g1 k1 P1 => ?_)
  cases d <;> first | exact P1.elim | skip
  have rp := k1.rep
  cases rp
  rename_i q
  refine ⟨q, rfl, ?_⟩
  cases q with
  | true => exact iteT (hb.run _ _ _ _ _ _ tk (S.grow g1) P1)
  | false => exact iteF (Post.finV P1 g1.sub (.bl false))
theorem se_or (ha : SE X E ks .val a ga) (hb : SE X E ks .val (.BoolOp .Or (b :: rest) pos) gb) : SE X E ks .val (.BoolOp .Or (a :: b :: rest) pos) (vOr ga gb) := by
  refine ⟨fun Hs H r σ W Q tk S P => ?_⟩
  refine we_of (pe_or pe_we pe_we) ?_
  refine ha.run _ _ _ _ _ _ tk S (Post.imp (F := fun d => asB d >>= fun b => if b then .ok (.bl true) else gb r) P fun d v Hs' H' e1 g1 k1 P1 => ?_)
  cases d <;> first | exact P1.elim | skip
  have rp := k1.rep
  cases rp
  rename_i q
  refine ⟨q, rfl, ?_⟩
  cases q with
  | false => exact iteF (hb.run _ _ _ _ _ _ tk (S.grow g1) P1)
  | true => exact iteT (Post.finV P1 g1.sub (.bl true))
theorem se_not (ha : SE X E ks .val a ga) : SE X E ks .val (.UnaryOp .Not a pos) (gUn dNotB ga) := by
  refine ⟨fun Hs H r σ W Q tk S P => ?_⟩
  refine we_of (pe_not pe_we) ?_
  refine ha.run _ _ _ _ _ _ tk S (P.imp fun d v Hs1 H1 e1 g1 k1 P1 => ?_)
  cases d <;> first | exact P1.elim | skip
  have rp := k1.rep
  cases rp
  exact ⟨_, rfl, P1.finV g1.sub (.bl _)⟩
@[simp] def gIf (tc : Sl → R Bool) (ga gb : Sl → R D) : Sl → R D := fun r => do
  let b ← tc r
  if b then ga r else gb r
theorem se_if {k : Kd} (hc : ST X E ks c tc) (ha : SE X E ks k a ga) (hb : SE X E ks k b gb) : SE X E ks k (.IfExp c a b pos) (gIf tc ga gb) := by
  refine ⟨fun Hs H r σ W Q tk S P => ?_⟩
  refine we_of (pe_ifExp pt_wt pe_we pe_we) ?_
  refine hc.run _ _ _ _ _ _ tk S (PostT.to P fun x Hs' H' e1 g1 P1 => ?_)
  have fin : ∀ {k : Kd}, Post E.cl k Hs' H' Q (fun c dd H' => W c dd σ H') (if x then ga r else gb r) → Post E.cl k Hs' H' Q (fun c dd H' => W c dd σ H') (if x then ga r else gb r) := fun z => z
  cases x with
  | true => exact iteT (ha.run _ _ _ _ _ _ tk (S.grow g1) P1)
  | false => exact iteF (hb.run _ _ _ _ _ _ tk (S.grow g1) P1)
end

/-! ### is None -/
@[simp] def dIsN : D → R D
  | .non => .ok (.bl true)
  | _ => .ok (.bl false)
@[simp] def dNotN : D → R D
  | .non => .ok (.bl false)
  | _ => .ok (.bl true)
section
variable {X : Cx} {E : En} {ks : List Kd} {a : Expr} {ga : Sl → R D} {pos pos' : Pos} {j : Nat}
theorem RB.isN {cl : Cl} {Hs H : Hp} {d : D} {v : V} (h : RB cl Hs H d v) : decide (v = V.non) = (match d with | .non => true | _ => false) := by
  cases h with
  | val r => cases r <;> rfl
  | lst _ _ => rfl
  | dct _ _ => rfl
  | obj _ _ _ => rfl
theorem se_isN (ha : SE X E ks .bor a ga) : SE X E ks .val (.Compare a [.Is] [.Constant .none j pos'] pos) (gUn dIsN ga) := by
  refine ⟨fun Hs H r σ W Q tk S P => ?_⟩
  refine we_of (pe_cmp (pc_isN pe_we) rfl) ?_
  refine ha.run _ _ _ _ _ _ tk S (P.imp fun d v Hs1 H1 e1 g1 k1 P1 => ?_)
  show Q (V.bl (decide (v = .non))) H1
  rw [k1.rb.isN]
  cases d <;> exact P1.finV g1.sub (.bl _)
theorem se_notN (ha : SE X E ks .bor a ga) : SE X E ks .val (.Compare a [.IsNot] [.Constant .none j pos'] pos) (gUn dNotN ga) := by
  refine ⟨fun Hs H r σ W Q tk S P => ?_⟩
  refine we_of (pe_cmp (pc_notN pe_we) rfl) ?_
  refine ha.run _ _ _ _ _ _ tk S (P.imp fun d v Hs1 H1 e1 g1 k1 P1 => ?_)
  show Q (V.bl (!decide (v = .non))) H1
  rw [k1.rb.isN]
  cases d <;> exact P1.finV g1.sub (.bl _)
theorem st_isN (ha : SE X E ks .bor a ga) : ST X E ks (.Compare a [.Is] [.Constant .none j pos'] pos) (gTest (gUn dIsN ga)) := by
  refine ⟨fun Hs H r σ W Q tk S P => ?_⟩
  refine wt_of (pt_cmp (pc_isN pe_we) rfl) ?_
  have P' : PostT E.cl Hs H Q (fun c dd H' => W c dd σ H') (ga r >>= fun d => dIsN d >>= asB) := by
    unfold gTest gUn at P
    cases q : ga r <;> rw [q] at P <;> exact P
  refine ha.run _ _ _ _ _ _ tk S (Post.ofT P' fun d v Hs1 H1 e1 g1 k1 P1 => ?_)
  refine ⟨_, rfl, ?_⟩
  rw [k1.rb.isN]
  cases d <;> exact P1 Hs1 H1 (Grow.refl g1.sub)
theorem st_notN (ha : SE X E ks .bor a ga) : ST X E ks (.Compare a [.IsNot] [.Constant .none j pos'] pos) (gTest (gUn dNotN ga)) := by
  refine ⟨fun Hs H r σ W Q tk S P => ?_⟩
  refine wt_of (pt_cmp (pc_notN pe_we) rfl) ?_
  have P' : PostT E.cl Hs H Q (fun c dd H' => W c dd σ H') (ga r >>= fun d => dNotN d >>= asB) := by
    unfold gTest gUn at P
    cases q : ga r <;> rw [q] at P <;> exact P
  refine ha.run _ _ _ _ _ _ tk S (Post.ofT P' fun d v Hs1 H1 e1 g1 k1 P1 => ?_)
  refine ⟨_, rfl, ?_⟩
  rw [k1.rb.isN]
  cases d <;> exact P1 Hs1 H1 (Grow.refl g1.sub)
end

/-! ### items -/
theorem atI_rep {cl : Cl} {H : Hp} {ds : List D} {vs : List V} {i : Int} {d : D} (r : RepL cl H ds vs) (h : atI ds i = some d) : ∃ v, atI vs i = some v ∧ Rep cl H d v := by
  unfold atI at h ⊢
  rw [r.length]
  cases q : ixN ds.length i with
  | none => rw [q] at h; cases h
  | some j =>
    rw [q] at h
    have h' : ds[j]? = some d := h
    obtain ⟨v, e, rp⟩ := r.get h'
    exact ⟨v, e, rp⟩
@[simp] def dIdx : D → D → R D
  | .lst ds, .int i => match atI ds i with
    | some d => .ok d
    | none => .stuck
  | .tup ds, .int i => match atI ds i with
    | some d => .ok d
    | none => .stuck
  | .str z, .int i => if z.length ≤ szL then (match atI z.cps.toList i with
    | some c => .ok (.str ⟨#[c]⟩)
    | none => .stuck) else .stuck
  | _, _ => .stuck
theorem nox_idx : NoX dIdx := fun a b x h => by
  cases a <;> cases b <;> dsimp only [dIdx] at h <;> first | (split at h <;> first | cases h | (split at h <;> cases h)) | cases h
theorem opv_idx {X : Cx} : OpV X.K (rIx X.K) .val dIdx := by
  intro cl Hs H d1 d2 v1 v2 Q W e b1 b2 P nx
  cases d1 <;> cases d2 <;> first | exact P.elim | skip
  · cases b1.strInv
    cases b2.intInv
    dsimp only [dIdx] at P
    split at P
    · rename_i h
      split at P
      · rename_i c q
        exact .inr (.inr ⟨_, _, c, rfl, rfl, by rw [szL_eq]; exact h, q, P.finV e (.str _)⟩)
      · exact P.elim
    · exact P.elim
  · cases b2.intInv
    dsimp only [dIdx] at P
    split at P
    · rename_i d q
      obtain ⟨l, xs, rfl, h1, r1⟩ := b1.lstInv e
      obtain ⟨v, e2, rp⟩ := atI_rep r1 q
      exact .inl ⟨l, xs, _, v, rfl, rfl, SqL.of h1, e2, P.finV e rp⟩
    · exact P.elim
  · cases b2.intInv
    dsimp only [dIdx] at P
    split at P
    · rename_i d q
      obtain ⟨l, xs, rfl, h1, r1⟩ := b1.tupInv e
      obtain ⟨v, e2, rp⟩ := atI_rep r1 q
      exact .inr (.inl ⟨l, xs, _, v, rfl, rfl, SqT.of h1, e2, P.finV e rp⟩)
    · exact P.elim
theorem se_ix {X : Cx} {E : En} {ks : List Kd} {a b : Expr} {ga gb : Sl → R D} {pos : Pos} (ha : SE X E ks .bor a ga) (hb : SE X E ks .bor b gb) (hs : PlainIx b := by exact fun _ _ => rfl) : SE X E ks .val (.Subscript a b pos) (gBin dIdx ga gb) :=
  ⟨fun Hs H r σ W Q tk S P => we_of (pe_ix ix_seq pe_we pe_we hs) (bin_read opv_idx nox_idx ha hb tk S P)⟩

/-! ### slices of lists -/
def cutL {α : Type} (xs : List α) (lo hi : Option Int) : List α := (xs.drop (HT.sIx xs.length 0 lo)).take (HT.sIx xs.length xs.length hi - HT.sIx xs.length 0 lo)
theorem cut_rep {cl : Cl} {H : Hp} {ds : List D} {vs : List V} {lo hi : Option Int} (r : RepL cl H ds vs) : RepL cl H (cutL ds lo hi) (cutV vs lo hi) := by
  unfold cutL cutV
  rw [r.length]
  exact (r.drop _).take _
/-- an end of a slice -/
def PostO (cl : Cl) (Hs H : Hp) (Q : Option Int → Hp → Prop) (W : WX0) : R (Option Int) → Prop
  | .stuck => False
  | .exc x => ∀ c dd Hs' H', Grow Hs H Hs' H' → XRep cl Hs' H' x c dd → W c dd H'
  | .ok b => ∀ Hs' H', Grow Hs H Hs' H' → Q b H'
theorem PostO.grow {cl : Cl} {Hs H Hs' H' : Hp} {Q : Option Int → Hp → Prop} {W : WX0} {r : R (Option Int)} (P : PostO cl Hs H Q W r) (g : Grow Hs H Hs' H') : PostO cl Hs' H' Q W r := by
  cases r with
  | stuck => exact P
  | exc x => exact fun c dd Hs2 H2 g2 x2 => P c dd Hs2 H2 (g.trans g2) x2
  | ok d => exact fun Hs2 H2 g2 => P Hs2 H2 (g.trans g2)
def WOx (X : Cx) (e : Option Expr) : TO := fun σ H Q => ∃ t, PO X e t ∧ t σ H Q
theorem po_wo {X : Cx} {e : Option Expr} : PO X e (WOx X e) := ⟨fun pins s σ H Q I ⟨t, p, h⟩ => p.run pins s σ H Q I h⟩
structure SO (X : Cx) (E : En) (ks : List Kd) (e : Option Expr) (g : Sl → R (Option Int)) : Prop where
  run : ∀ (Hs H : Hp) (r : Sl) (σ : L2.St) (W : WX) (Q : Option Int → Hp → Prop), Takes X W → StRel E Hs H ks r σ → PostO E.cl Hs H Q (fun c dd H' => W c dd σ H') (g r) → WOx X e σ H Q
@[simp] def gNoPart : Sl → R (Option Int) := fun _ => .ok none
@[simp] def dPart : D → R (Option Int)
  | .int i => .ok (some i)
  | _ => .stuck
@[simp] def gPart (g : Sl → R D) : Sl → R (Option Int) := fun r => do
  let d ← g r
  dPart d
section
variable {X : Cx} {E : En} {ks : List Kd} {a e : Expr} {ga g : Sl → R D} {pos p2 : Pos} {lo hi : Option Expr} {gl gh : Sl → R (Option Int)}
theorem so_none : SO X E ks none gNoPart := ⟨fun Hs H r σ W Q tk S P => ⟨_, po_none, P Hs H (Grow.refl S.sub)⟩⟩
theorem so_some (h : SE X E ks .bor e g) : SO X E ks (some e) (gPart g) := by
  refine ⟨fun Hs H r σ W Q tk S P => ?_⟩
  refine ⟨_, po_some pe_we, ?_⟩
  refine h.run _ _ _ _ _ _ tk S ?_
  unfold gPart at P
  cases q : g r with
  | stuck => rw [q] at P; exact P
  | exc x => rw [q] at P; exact P
  | ok d =>
    rw [q] at P
    intro v Hs' H' g1 k1
    cases d <;> first | exact False.elim P | skip
    cases k1.rb.intInv
    exact ⟨_, rfl, P Hs' H' g1⟩
@[simp] def dSlL (d : D) (lo hi : Option Int) : R D := match d with
  | .lst ds => .ok (.lst (cutL ds lo hi))
  | .tup ds => .ok (.tup (cutL ds lo hi))
  | .str x => if x.length ≤ szL then .ok (.str (cutS x lo hi)) else .stuck
  | _ => .stuck
theorem cutL_whole {α : Type} {xs : List α} {lo hi : Option Int} (h : HT.sIx xs.length 0 lo = 0 ∧ HT.sIx xs.length xs.length hi = xs.length) : cutL xs lo hi = xs := by
  unfold cutL
  rw [h.1, h.2, List.drop_zero, Nat.sub_zero, List.take_length]
@[simp] def gSl (ga : Sl → R D) (gl gh : Sl → R (Option Int)) : Sl → R D := fun r => do
  let d ← ga r
  let l ← gl r
  let h ← gh r
  dSlL d l h
theorem se_slL (ha : SE X E ks .bor a ga) (hl : SO X E ks lo gl) (hh : SO X E ks hi gh) : SE X E ks (.own none) (.Subscript a (.Slice lo hi none p2) pos) (gSl ga gl gh) := by
  refine ⟨fun Hs H r σ W Q tk S P => ?_⟩
  refine we_of (pe_slice ((sl_list.or sl_tupA).or sl_str) pe_we po_wo po_wo) ?_
  refine ha.run _ _ _ _ _ _ tk S (Post.imp (F := fun d => gl r >>= fun l => gh r >>= fun h => dSlL d l h) P fun d v Hs1 H1 e1 g1 k1 P1 => ?_)
  refine hl.run _ _ _ _ _ _ tk (S.grow g1) ?_
  cases q : gl r with
  | stuck => rw [q] at P1; exact P1
  | exc x => rw [q] at P1; exact P1
  | ok l =>
    rw [q] at P1
    intro Hs2 H2 g2
    refine hh.run _ _ _ _ _ _ tk ((S.grow g1).grow g2) ?_
    have P2 : Post E.cl (.own none) Hs2 H2 Q (fun c dd H' => W c dd σ H') (gh r >>= fun h => dSlL d l h) := Post.grow (r := gh r >>= fun h => dSlL d l h) P1 g2
    cases q2 : gh r with
    | stuck => rw [q2] at P2; exact P2
    | exc x => rw [q2] at P2; exact P2
    | ok h =>
      rw [q2] at P2
      intro Hs3 H3 g3
      have P3 : Post E.cl (.own none) Hs3 H3 Q (fun c dd H' => W c dd σ H') (dSlL d l h) := Post.grow (r := dSlL d l h) P2 g3
      cases d <;> first | exact P3.elim | skip
      · cases ((k1.rb.grow g2).grow g3).strInv
        dsimp only [dSlL] at P3
        split at P3
        · rename_i hz
          exact .inr ⟨_, rfl, by rw [szL_eq]; exact hz, P3.fin g3.sub rfl (.str _)⟩
        · exact P3.elim
      · obtain ⟨p, xs, rfl, h1, r1⟩ := ((k1.rb.grow g2).grow g3).lstInv g3.sub
        exact .inl (.inl ⟨p, xs, rfl, SqL.of h1, fun q hq => P3.finL g3.sub hq (cut_rep r1)⟩)
      · have b1 := (k1.rb.grow g2).grow g3
        have b1' := b1
        obtain ⟨p, xs, rfl, h1, r1⟩ := b1.tupInv g3.sub
        refine .inl (.inr ⟨p, xs, rfl, SqT.of h1, fun z => ?_, fun _ q hq => ?_⟩)
        · rw [r1.length] at z
          dsimp only [dSlL] at P3
          rw [cutL_whole z] at P3
          cases b1' with
          | val rr => exact P3.fin g3.sub rfl rr
        · exact P3 _ _ _ (Grow.new g3.sub hq) (RK.ownPlain rfl (.tup upd_same (RepL.same (Same.updNew (g3.sub.free hq)) _ _ (cut_rep r1))))
end
end VL
end

noncomputable section
namespace VL
open PySem PySem.Spec PyProof.Rows L2

/-! ### argument lists -/
/-- how an argument lies: stable, or borrowed -/
inductive RAs (cl : Cl) (Hs H : Hp) : List Bool → List D → List V → Prop
  | nil : RAs cl Hs H [] [] []
  | val {d : D} {v : V} {bs : List Bool} {ds : List D} {vs : List V} : Rep cl Hs d v → RAs cl Hs H bs ds vs → RAs cl Hs H (true :: bs) (d :: ds) (v :: vs)
  | bor {d : D} {v : V} {bs : List Bool} {ds : List D} {vs : List V} : RB cl Hs H d v → RAs cl Hs H bs ds vs → RAs cl Hs H (false :: bs) (d :: ds) (v :: vs)
theorem RAs.grow {cl : Cl} {Hs H Hs' H' : Hp} (g : Grow Hs H Hs' H') : ∀ {bs : List Bool} {ds : List D} {vs : List V}, RAs cl Hs H bs ds vs → RAs cl Hs' H' bs ds vs
  | _, _, _, .nil => .nil
  | _, _, _, .val r t => .val (Rep.same g.s _ _ r) (RAs.grow g t)
  | _, _, _, .bor r t => .bor (r.grow g) (RAs.grow g t)
theorem RAs.len {cl : Cl} {Hs H : Hp} : ∀ {bs : List Bool} {ds : List D} {vs : List V}, RAs cl Hs H bs ds vs → vs.length = bs.length ∧ ds.length = bs.length
  | _, _, _, .nil => ⟨rfl, rfl⟩
  | _, _, _, .val r t => by simp [RAs.len t]
  | _, _, _, .bor r t => by simp [RAs.len t]
theorem RAs.reps {cl : Cl} {Hs H : Hp} : ∀ {n : Nat} {ds : List D} {vs : List V}, RAs cl Hs H (List.replicate n true) ds vs → RepL cl Hs ds vs
  | 0, _, _, h => by cases h; exact .nil
  | n + 1, _, _, h => by
    rw [List.replicate_succ] at h
    cases h with
    | val r t => exact .cons r (RAs.reps t)
def PostA (cl : Cl) (bs : List Bool) (Hs H : Hp) (Q : List V → Hp → Prop) (W : WX0) : R (List D) → Prop
  | .stuck => False
  | .exc x => ∀ c dd Hs' H', Grow Hs H Hs' H' → XRep cl Hs' H' x c dd → W c dd H'
  | .ok ds => ∀ vs Hs' H', Grow Hs H Hs' H' → RAs cl Hs' H' bs ds vs → Q vs H'
theorem PostA.grow {cl : Cl} {bs : List Bool} {Hs H Hs' H' : Hp} {Q : List V → Hp → Prop} {W : WX0} {r : R (List D)} (P : PostA cl bs Hs H Q W r) (g : Grow Hs H Hs' H') : PostA cl bs Hs' H' Q W r := by
  cases r with
  | stuck => exact P
  | exc x => exact fun c dd Hs2 H2 g2 x2 => P c dd Hs2 H2 (g.trans g2) x2
  | ok d => exact fun vs Hs2 H2 g2 => P vs Hs2 H2 (g.trans g2)
structure SA (X : Cx) (E : En) (ks : List Kd) (bs : List Bool) (es : List Expr) (g : Sl → R (List D)) : Prop where
  run : ∀ (Hs H : Hp) (r : Sl) (σ : L2.St) (W : WX) (Q : List V → Hp → Prop), Takes X W → StRel E Hs H ks r σ → PostA E.cl bs Hs H Q (fun c dd H' => W c dd σ H') (g r) → WAx X es σ H Q
@[simp] def gNil : Sl → R (List D) := fun _ => .ok []
@[simp] def gCons (g : Sl → R D) (t : Sl → R (List D)) : Sl → R (List D) := fun r => do
  let d ← g r
  let ds ← t r
  .ok (d :: ds)
/-- from an argument list to what is made of it -/
theorem PostA.of {cl : Cl} {k : Kd} {bs : List Bool} {Hs H : Hp} {Q : VK} {W : WX0} {r : R (List D)} {f : List D → R D} {Q1 : List V → Hp → Prop} (P : Post cl k Hs H Q W (r >>= f))
    (h : ∀ ds vs Hs' H', r = .ok ds → Grow Hs H Hs' H' → RAs cl Hs' H' bs ds vs → Post cl k Hs' H' Q W (f ds) → Q1 vs H') : PostA cl bs Hs H Q1 W r := by
  cases r with
  | stuck => exact P
  | exc x => exact P
  | ok ds => exact fun vs Hs' H' g a => h ds vs Hs' H' rfl g a (Post.grow (r := f ds) P g)
section
variable {X : Cx} {E : En} {ks : List Kd} {e : Expr} {es : List Expr} {g : Sl → R D} {t : Sl → R (List D)} {bs : List Bool} {pos : Pos}
theorem sa_nil : SA X E ks [] [] gNil := ⟨fun Hs H r σ W Q tk S P => wa_of pa_nil (P [] Hs H (Grow.refl S.sub) .nil)⟩
theorem sa_cons_core {k : Kd} {b : Bool} (he : SE X E ks k e g) (ht : SA X E ks bs es t) (hs : starEach (e :: es) X.env = (false, eval e X.env) :: starEach es X.env)
    (mk : ∀ {cl Hs H H0 d v ds vs}, RK cl k H0 Hs H d v → RAs cl Hs H bs ds vs → RAs cl Hs H (b :: bs) (d :: ds) (v :: vs))
    (gr : ∀ {cl : Cl} {Hs H Hs' H' H0 : Hp} {d : D} {v : V}, RK cl k H0 Hs H d v → Grow Hs H Hs' H' → RK cl k H0 Hs' H' d v) : SA X E ks (b :: bs) (e :: es) (gCons g t) := by
  refine ⟨fun Hs H r σ W Q tk S P => ?_⟩
  refine wa_of (pa_cons pe_we pa_wa hs) ?_
  refine he.run _ _ _ _ _ _ tk S ?_
  unfold gCons at P
  cases q : g r with
  | stuck => rw [q] at P; exact P
  | exc x => rw [q] at P; exact P
  | ok d =>
    rw [q] at P
    intro v Hs1 H1 g1 k1
    refine ht.run _ _ _ _ _ _ tk (S.grow g1) ?_
    have P1 := PostA.grow (r := t r >>= fun ds => R.ok (d :: ds)) P g1
    cases q2 : t r with
    | stuck => rw [q2] at P1; exact P1
    | exc x => rw [q2] at P1; exact P1
    | ok ds =>
      rw [q2] at P1
      exact fun vs Hs2 H2 g2 a2 => P1 _ Hs2 H2 g2 (mk (gr k1 g2) a2)
theorem sa_v (he : SE X E ks .val e g) (ht : SA X E ks bs es t) (hs : starEach (e :: es) X.env = (false, eval e X.env) :: starEach es X.env := by rfl) : SA X E ks (true :: bs) (e :: es) (gCons g t) :=
  sa_cons_core he ht hs (fun k a => .val k.rep a) fun k g => RK.val (Rep.same g.s _ _ k.rep)
theorem sa_b (he : SE X E ks .bor e g) (ht : SA X E ks bs es t) (hs : starEach (e :: es) X.env = (false, eval e X.env) :: starEach es X.env := by rfl) : SA X E ks (false :: bs) (e :: es) (gCons g t) :=
  sa_cons_core he ht hs (fun k a => .bor k.rb a) fun k g => (k.rb.grow g).rk

/-! ### displays -/
@[simp] def gLst (t : Sl → R (List D)) : Sl → R D := fun r => do
  let ds ← t r
  if ds.length ≤ szL then .ok (.lst ds) else .stuck
@[simp] def gTup (t : Sl → R (List D)) : Sl → R D := fun r => do
  let ds ← t r
  if ds.length ≤ szL then .ok (.tup ds) else .stuck
theorem RepL.len' {cl : Cl} {H : Hp} {ds : List D} {vs : List V} (r : RepL cl H ds vs) : vs.length = ds.length := r.length
theorem se_lst {n : Nat} (h : SA X E ks (List.replicate n true) es t) : SE X E ks (.own none) (.List es pos) (gLst t) := by
  refine ⟨fun Hs H r σ W Q tk S P => ?_⟩
  refine we_of (pe_lst pa_wa) ?_
  refine h.run _ _ _ _ _ _ tk S (PostA.of P fun ds vs Hs' H' e1 g1 a P1 => ?_)
  have rp := a.reps
  split at P1
  · rename_i z
    exact ⟨by rw [szL_eq, rp.length]; exact z, fun p hp => P1.finL g1.sub hp rp⟩
  · exact P1.elim
theorem se_tup {n : Nat} {x1 : Nat} (h : SA X E ks (List.replicate n true) es t) : SE X E ks .val (.Tuple es x1 pos) (gTup t) := by
  refine ⟨fun Hs H r σ W Q tk S P => ?_⟩
  refine we_of (pe_tup pa_wa) ?_
  refine h.run _ _ _ _ _ _ tk S (PostA.of P fun ds vs Hs' H' e1 g1 a P1 => ?_)
  have rp := a.reps
  split at P1
  · rename_i z
    refine ⟨by rw [szL_eq, rp.length]; exact z, fun p hp => ?_⟩
    exact P1 _ _ _ (Grow.new g1.sub hp) (RK.val (.tup upd_same (RepL.same (Same.updNew (g1.sub.free hp)) _ _ rp)))
  · exact P1.elim

/-! ### built-ins by name -/
def CallV (K : PySem.W.Frag) (rr : List V → Hp → VK → Prop) (k : Kd) (bs : List Bool) (f : List D → R D) : Prop :=
  ∀ (cl : Cl) (Hs H : Hp) (ds : List D) (vs : List V) (Q : VK) (W : WX0), Same Hs H → RAs cl Hs H bs ds vs → Post cl k Hs H Q W (f ds) → rr vs H Q
@[simp] def gCall (f : List D → R D) (t : Sl → R (List D)) : Sl → R D := fun r => do
  let ds ← t r
  f ds
theorem se_callB {id : String} {x : Str} {p : Pos} {rr : List V → Hp → VK → Prop} {k : Kd} {f : List D → R D} (hc : CallR X (.builtin id) rr) (hv : CallV X.K rr k bs f) (hm : X.mg x = none) (hb : bootBuiltins x = some (.builtin id)) (ha : SA X E ks bs (e :: es) t)
    (hg : Gl X x := by rfl) (hn : x ≠ "__name__" := by decide) (hdb : (x == ("__debug__" : Str)) = false := by decide)
    (he : starEach (e :: es) X.env = (false, eval e X.env) :: starEach es X.env := by rfl) (hpl : (backTo pos (starEach es X.env)).any (·.1) = false := by rfl) : SE X E ks k (.Call (.Name x p) (e :: es) [] pos) (gCall f t) := by
  refine ⟨fun Hs H r σ W Q tk S P => ?_⟩
  refine we_of (pe_callB hc hg hm hb pa_wa hn hdb he hpl) ?_
  exact ha.run _ _ _ _ _ _ tk S (PostA.of P fun ds vs Hs' H' e1 g1 a P1 => hv _ _ _ _ _ _ _ g1.sub a P1)
theorem se_callTy {T : String} {x : Str} {p : Pos} {rr : List V → Hp → VK → Prop} {k : Kd} {f : List D → R D} (hc : CallR X (.type T) rr) (hv : CallV X.K rr k bs f) (hm : X.mg x = none) (hb : bootBuiltins x = some (.type T)) (ha : SA X E ks bs (e :: es) t)
    (hg : Gl X x := by rfl) (hn : x ≠ "__name__" := by decide) (hdb : (x == ("__debug__" : Str)) = false := by decide)
    (he : starEach (e :: es) X.env = (false, eval e X.env) :: starEach es X.env := by rfl) (hpl : (backTo pos (starEach es X.env)).any (·.1) = false := by rfl) : SE X E ks k (.Call (.Name x p) (e :: es) [] pos) (gCall f t) := by
  refine ⟨fun Hs H r σ W Q tk S P => ?_⟩
  refine we_of (pe_callTy hc hg hm hb pa_wa hn hdb he hpl) ?_
  exact ha.run _ _ _ _ _ _ tk S (PostA.of P fun ds vs Hs' H' e1 g1 a P1 => hv _ _ _ _ _ _ _ g1.sub a P1)
end

/-! ### len, min, max, abs, sum, sorted, list, tuple, int -/
@[simp] def fLen : List D → R D
  | [.lst ds] => .ok (.int ds.length)
  | [.tup ds] => .ok (.int ds.length)
  | [.str x] => if x.length ≤ szL then .ok (.int x.length) else .stuck
  | [.dct ds] => .ok (.int ds.length)
  | _ => .stuck
theorem RAs.one {cl : Cl} {Hs H : Hp} {ds : List D} {vs : List V} (h : RAs cl Hs H [false] ds vs) : ∃ d v, ds = [d] ∧ vs = [v] ∧ RB cl Hs H d v := by
  cases h with
  | bor r t => cases t; exact ⟨_, _, rfl, rfl, r⟩
theorem RAs.two {cl : Cl} {Hs H : Hp} {ds : List D} {vs : List V} (h : RAs cl Hs H [false, false] ds vs) : ∃ d v d' v', ds = [d, d'] ∧ vs = [v, v'] ∧ RB cl Hs H d v ∧ RB cl Hs H d' v' := by
  cases h with
  | bor r t =>
    obtain ⟨d, v, rfl, rfl, r'⟩ := t.one
    exact ⟨_, _, _, _, rfl, rfl, r, r'⟩
theorem RepK.length {cl : Cl} {H : Hp} : ∀ {ds : List (Key × D)} {vs : List (Key × V)}, RepK cl H ds vs → vs.length = ds.length
  | [], _, h => by cases h; rfl
  | (k, d) :: ds, _, h => by
    cases h with
    | cons h1 h2 => rw [List.length_cons, List.length_cons, RepK.length h2]
theorem call_lenR {X : Cx} : CallR X (.builtin "len") (fun xs H Q => ∃ a kvs, xs = [V.ref a] ∧ Rd H a (.dK kvs) ∧ Q (.int kvs.length) H) := by
  intro pins s σ H xs us Q I r h
  obtain ⟨a, kvs, rfl, ha, q⟩ := h
  obtain ⟨u, rfl, ru⟩ := vals1 r
  cases ru
  exact d_len I ha fun t s' I' => ⟨.int kvs.length, H, I', ⟨t, rfl⟩, q⟩
theorem callv_len {X : Cx} : CallV X.K (fun xs H Q => (∃ x n, xs = [x] ∧ LenV X.K x H n ∧ Q (.int n) H) ∨ (∃ a kvs, xs = [V.ref a] ∧ Rd H a (.dK kvs) ∧ Q (.int kvs.length) H)) .val [false] fLen := by
  intro cl Hs H ds vs Q W e a P
  obtain ⟨d, v, rfl, rfl, r⟩ := a.one
  cases d <;> first | exact P.elim | skip
  · cases r.strInv
    dsimp only [fLen] at P
    split at P
    · rename_i h
      exact .inl ⟨_, _, rfl, ⟨by rw [szL_eq]; exact h, rfl⟩, P.finV e (.int _)⟩
    · exact P.elim
  · obtain ⟨p, xs, rfl, h1, r1⟩ := r.lstInv e
    refine .inl ⟨_, xs.length, rfl, .inl ⟨xs, SqL.of h1, rfl⟩, ?_⟩
    rw [r1.length]
    exact P.finV e (.int _)
  · obtain ⟨p, xs, rfl, h1, r1⟩ := r.tupInv e
    refine .inl ⟨_, xs.length, rfl, .inr ⟨xs, SqT.of h1, rfl⟩, ?_⟩
    rw [r1.length]
    exact P.finV e (.int _)
  · obtain ⟨p, xs, rfl, h1, r1⟩ := r.dctInv e
    refine .inr ⟨p, xs, rfl, h1, ?_⟩
    rw [r1.length]
    exact P.finV e (.int _)
@[simp] def fMin2 : List D → R D
  | [.int i, .int j] => .ok (.int (if j < i then j else i))
  | _ => .stuck
@[simp] def fMax2 : List D → R D
  | [.int i, .int j] => .ok (.int (if j > i then j else i))
  | _ => .stuck
@[simp] def fAbs : List D → R D
  | [.int i] => .ok (.int (if i < 0 then -i else i))
  | _ => .stuck
@[simp] def fInt : List D → R D
  | [.int i] => .ok (.int i)
  | [.bl k] => .ok (.int (if k then 1 else 0))
  | [.str x] => if x.length ≤ 640 then (match PySem.intText? x with
    | some n => .ok (.int n)
    | none => .stuck) else .stuck
  | _ => .stuck
theorem callv_min2 {X : Cx} : CallV X.K (fun xs H Q => ∃ i j, xs = [.int i, .int j] ∧ Q (.int (if j < i then j else i)) H) .val [false, false] fMin2 := by
  intro cl Hs H ds vs Q W e a P
  obtain ⟨d, v, d', v', rfl, rfl, r, r'⟩ := a.two
  cases d <;> cases d' <;> first | exact P.elim | skip
  cases r.intInv
  cases r'.intInv
  exact ⟨_, _, rfl, P.finV e (.int _)⟩
theorem callv_max2 {X : Cx} : CallV X.K (fun xs H Q => ∃ i j, xs = [.int i, .int j] ∧ Q (.int (if j > i then j else i)) H) .val [false, false] fMax2 := by
  intro cl Hs H ds vs Q W e a P
  obtain ⟨d, v, d', v', rfl, rfl, r, r'⟩ := a.two
  cases d <;> cases d' <;> first | exact P.elim | skip
  cases r.intInv
  cases r'.intInv
  exact ⟨_, _, rfl, P.finV e (.int _)⟩
theorem callv_abs {X : Cx} : CallV X.K (fun xs H Q => ∃ i, xs = [.int i] ∧ Q (.int (if i < 0 then -i else i)) H) .val [false] fAbs := by
  intro cl Hs H ds vs Q W e a P
  obtain ⟨d, v, rfl, rfl, r⟩ := a.one
  cases d <;> first | exact P.elim | skip
  cases r.intInv
  exact ⟨_, rfl, P.finV e (.int _)⟩
theorem callv_int {X : Cx} : CallV X.K (fun xs H Q => ((∃ i, xs = [.int i] ∧ Q (.int i) H) ∨ ∃ k, xs = [.bl k] ∧ Q (.int (if k then 1 else 0)) H) ∨ ∃ a n, xs = [.str a] ∧ PySem.intText? a = some n ∧ a.length ≤ 640 ∧ Q (.int n) H) .val [false] fInt := by
  intro cl Hs H ds vs Q W e a P
  obtain ⟨d, v, rfl, rfl, r⟩ := a.one
  cases d <;> first | exact P.elim | skip
  · cases r.blInv
    exact .inl (.inr ⟨_, rfl, P.finV e (.int _)⟩)
  · cases r.intInv
    exact .inl (.inl ⟨_, rfl, P.finV e (.int _)⟩)
  · cases r.strInv
    dsimp only [fInt] at P
    split at P
    · rename_i h
      split at P
      · rename_i n q
        exact .inr ⟨_, n, rfl, q, h, P.finV e (.int _)⟩
      · exact P.elim
    · exact P.elim
/-- a list of whole numbers -/
def intsOf : List D → Option (List Int)
  | [] => some []
  | .int i :: r => (intsOf r).map (i :: ·)
  | _ :: _ => none
theorem intsOf_map (ns : List Int) : intsOf (ns.map D.int) = some ns := by
  induction ns with
  | nil => rfl
  | cons n ns ih => rw [List.map_cons, intsOf, ih]; rfl
theorem intsOf_eq : ∀ {ds : List D} {ns : List Int}, intsOf ds = some ns → ds = ns.map D.int
  | [], _, h => by cases h; rfl
  | d :: r, _, h => by
    cases d <;> first | cases h | skip
    rename_i i
    dsimp only [intsOf] at h
    cases q : intsOf r with
    | none => rw [q] at h; cases h
    | some ms =>
      rw [q] at h
      cases h
      rw [intsOf_eq q]
      rfl
def fSum : List D → R D
  | [.lst ds] => match intsOf ds with
    | some ns => .ok (.int ns.sum)
    | none => .stuck
  | _ => .stuck
def lmax : List Int → Int
  | [] => 0
  | [x] => x
  | x :: y :: r => max x (lmax (y :: r))
def lmin : List Int → Int
  | [] => 0
  | [x] => x
  | x :: y :: r => min x (lmin (y :: r))
theorem lmax_of : ∀ {ns : List Int} {m : Int}, m ∈ ns → (∀ y, y ∈ ns → y ≤ m) → m = lmax ns
  | [], _, h, _ => by cases h
  | [x], m, h, _ => by simpa [lmax] using h
  | x :: y :: r, m, h, k => by
    have hx : x ≤ m := k x (by simp)
    unfold lmax
    rcases List.mem_cons.mp h with e | h
    · subst e
      have : lmax (y :: r) ≤ m := by
        clear h
        have key : ∀ (l : List Int), l ≠ [] → (∀ z ∈ l, z ≤ m) → lmax l ≤ m := by
          intro l
          induction l with
          | nil => intro h; exact absurd rfl h
          | cons a t ih =>
            intro _ hz
            cases t with
            | nil => exact hz a (by simp)
            | cons b t =>
              unfold lmax
              have h1 := hz a (by simp)
              have h2 := ih (by simp) fun z hz' => hz z (List.mem_cons_of_mem _ hz')
              omega
        exact key _ (by simp) fun z hz => k z (List.mem_cons_of_mem _ hz)
      omega
    · have e := lmax_of h fun z hz => k z (List.mem_cons_of_mem _ hz)
      omega
theorem lmin_of : ∀ {ns : List Int} {m : Int}, m ∈ ns → (∀ y, y ∈ ns → m ≤ y) → m = lmin ns
  | [], _, h, _ => by cases h
  | [x], m, h, _ => by simpa [lmin] using h
  | x :: y :: r, m, h, k => by
    have hx : m ≤ x := k x (by simp)
    unfold lmin
    rcases List.mem_cons.mp h with e | h
    · subst e
      have : m ≤ lmin (y :: r) := by
        clear h
        have key : ∀ (l : List Int), l ≠ [] → (∀ z ∈ l, m ≤ z) → m ≤ lmin l := by
          intro l
          induction l with
          | nil => intro h; exact absurd rfl h
          | cons a t ih =>
            intro _ hz
            cases t with
            | nil => exact hz a (by simp)
            | cons b t =>
              unfold lmin
              have h1 := hz a (by simp)
              have h2 := ih (by simp) fun z hz' => hz z (List.mem_cons_of_mem _ hz')
              omega
        exact key _ (by simp) fun z hz => k z (List.mem_cons_of_mem _ hz)
      omega
    · have e := lmin_of h fun z hz => k z (List.mem_cons_of_mem _ hz)
      omega
def fMax1 : List D → R D
  | [.lst ds] => match intsOf ds with
    | some ns => if ns = [] then .stuck else .ok (.int (lmax ns))
    | none => .stuck
  | _ => .stuck
def fMin1 : List D → R D
  | [.lst ds] => match intsOf ds with
    | some ns => if ns = [] then .stuck else .ok (.int (lmin ns))
    | none => .stuck
  | _ => .stuck
theorem RB.intsInv {cl : Cl} {Hs H : Hp} {ds : List D} {ns : List Int} {v : V} (h : RB cl Hs H (.lst ds) v) (e : Same Hs H) (q : intsOf ds = some ns) : ∃ a, v = .ref a ∧ H a = some (.lst (ns.map V.int)) := by
  obtain ⟨p, xs, rfl, h1, r1⟩ := h.lstInv e
  rw [intsOf_eq q] at r1
  rw [r1.ints] at h1
  exact ⟨p, rfl, h1⟩
theorem callv_sum {X : Cx} : CallV X.K (rSum X.K) .val [false] fSum := by
  intro cl Hs H ds vs Q W e a P
  obtain ⟨d, v, rfl, rfl, r⟩ := a.one
  cases d <;> first | exact P.elim | skip
  dsimp only [fSum] at P
  split at P
  · rename_i ns q
    obtain ⟨p, rfl, h1⟩ := r.intsInv e q
    exact ⟨p, ns, rfl, SqL.of h1, P.finV e (.int _)⟩
  · exact P.elim
theorem callv_max1 {X : Cx} : CallV X.K (rMax X.K) .val [false] fMax1 := by
  intro cl Hs H ds vs Q W e a P
  obtain ⟨d, v, rfl, rfl, r⟩ := a.one
  cases d <;> first | exact P.elim | skip
  dsimp only [fMax1] at P
  split at P
  · rename_i ns q
    split at P
    · exact P.elim
    · rename_i hn
      obtain ⟨p, rfl, h1⟩ := r.intsInv e q
      refine ⟨p, ns, rfl, SqL.of h1, List.length_pos_iff.mpr hn, fun m hm hle => ?_⟩
      rw [lmax_of hm hle]
      exact P.finV e (.int _)
  · exact P.elim
theorem callv_min1 {X : Cx} : CallV X.K (rMin X.K) .val [false] fMin1 := by
  intro cl Hs H ds vs Q W e a P
  obtain ⟨d, v, rfl, rfl, r⟩ := a.one
  cases d <;> first | exact P.elim | skip
  dsimp only [fMin1] at P
  split at P
  · rename_i ns q
    split at P
    · exact P.elim
    · rename_i hn
      obtain ⟨p, rfl, h1⟩ := r.intsInv e q
      refine ⟨p, ns, rfl, SqL.of h1, List.length_pos_iff.mpr hn, fun m hm hle => ?_⟩
      rw [lmin_of hm hle]
      exact P.finV e (.int _)
  · exact P.elim
@[simp] def fList : List D → R D
  | [.lst ds] => .ok (.lst ds)
  | [.tup ds] => .ok (.lst ds)
  | _ => .stuck
@[simp] def fTuple : List D → R D
  | [.lst ds] => .ok (.tup ds)
  | [.tup ds] => .ok (.tup ds)
  | _ => .stuck
theorem callv_list {X : Cx} : CallV X.K (fun xs H Q => ∃ p ys, xs = [.ref p] ∧ (SqL X.K H p ys ∨ SqT X.K H p ys) ∧ ∀ l, H l = none → Q (.ref l) (upd H l (.lst ys))) (.own none) [false] fList := by
  intro cl Hs H ds vs Q W e a P
  obtain ⟨d, v, rfl, rfl, r⟩ := a.one
  cases d <;> first | exact P.elim | skip
  · obtain ⟨p, xs, rfl, h1, r1⟩ := r.lstInv e
    exact ⟨p, xs, rfl, .inl (SqL.of h1), fun l hl => P.finL e hl r1⟩
  · obtain ⟨p, xs, rfl, h1, r1⟩ := r.tupInv e
    exact ⟨p, xs, rfl, .inr (SqT.of h1), fun l hl => P.finL e hl r1⟩
theorem callv_tuple {X : Cx} : CallV X.K (fun xs H Q => ∃ p ys, xs = [.ref p] ∧ ((SqL X.K H p ys ∧ ∀ l, H l = none → Q (.ref l) (upd H l (.tup ys))) ∨ (SqT X.K H p ys ∧ Q (.ref p) H))) .val [false] fTuple := by
  intro cl Hs H ds vs Q W e a P
  obtain ⟨d, v, rfl, rfl, r⟩ := a.one
  cases d <;> first | exact P.elim | skip
  · obtain ⟨p, xs, rfl, h1, r1⟩ := r.lstInv e
    refine ⟨p, xs, rfl, .inl ⟨SqL.of h1, fun l hl => ?_⟩⟩
    exact P _ _ _ (Grow.new e hl) (RK.val (.tup upd_same (RepL.same (Same.updNew (e.free hl)) _ _ r1)))
  · cases r with
    | val r0 =>
      cases r0 with
      | tup h1 r1 => exact ⟨_, _, rfl, .inr ⟨SqT.of (e.at _ _ h1), P.finV e (.tup h1 r1)⟩⟩
end VL
end

noncomputable section
namespace VL
open PySem PySem.Spec PyProof.Rows L2

/-! ### ranges of any places -/
theorem turn_longrange {P : Program} {w : World} {K : PySem.W.Frag} {tg : Expr} (it : Addr) (lo : Int) (n : Nat) : Turn P w K tg (Itr lo n) [it] it (fun i h => IsLongIter h it (lo + (i : Nat) * 1) ((n : Int) - (i : Nat)) 1) where
  mem := by simp
  obj := fun i h st b hb => by
    have e : b = it := by simpa using hb
    subst e
    exact ⟨_, st, fun v z => by
      have z' : Data.fields _ = Data.cell v := z
      cases z'⟩
  keep := fun i h h' st k => k it (by simp) _ st
  item := by
    intro X hP hw hK hc i pins s σ H E I hf st hg
    subst hP hw hK
    obtain ⟨f0, f1, f2, f3, f4, f5⟩ := hf it (by simp)
    have W := Walks.longrange (prog := X.prog) (w := X.w) (I.ok.hd hc) it lo 1 n
    refine W.item i s _ _ hg st fun v h' tk hv st' kk => ?_
    obtain ⟨t, rfl⟩ := hv
    have I1 : Inv X pins σ H { s with heap := h', toks := tk } := I.turned (fun b o hb e => kk b o (by simpa using hb) e) f0 f1 f3 f4 f5
    refine ⟨_, rfl, go_of (s := { s with heap := h', toks := tk }) (n := "longrange_iterator") st' rfl rfl (by decide) ⟨.int (lo + i), H, I1, ⟨t, ?_⟩, ⟨rfl, rfl⟩, st', fun b hb => (hf b hb).1⟩⟩
    rw [Int.mul_one]
  done := by
    intro X hP hw hK hc i pins s σ H E I hf st hg
    subst hP hw hK
    obtain ⟨f0, f1, f2, f3, f4, f5⟩ := hf it (by simp)
    exact wpAny_pyNext_long_end (I.ok.hd hc) st (by have : n ≤ i := hg; omega) fun h' eb => ⟨rfl, I.turned (t' := s.toks) (fun b o hb e => eb b o hb e) f0 f1 f3 f4 f5⟩
  self := fun _ _ _ _ _ st h => wpAny_pyIter_longiter st h
section
variable {X : Cx} {tg : Expr}
/-- a range object just made, walked, wherever its ends lie -/
theorem range_itA {pins : List (Addr × Obj)} {σ : L2.St} {H : Hp} {s : Shared} {R : It → Hp → Prop} {E : Value → Shared → Prop} {lo hi : Int} {t u v : Tok} {tk : Nat} (I : Inv X pins σ H s)
    (q : R (Itr lo (hi - lo).toNat) H) : wpAny (model X.prog X.w) X.A (pyIter (.ref s.heap.objs.size)) (PIE X pins σ tg R) E { s with heap := s.heap.push { cls := .type "range", data := .fields #[.int lo t, .int hi u, .int 1 v] }, toks := tk } := by
  have I1 : Inv X pins σ H { s with heap := s.heap.push { cls := .type "range", data := .fields #[.int lo t, .int hi u, .int 1 v] }, toks := tk } := I.kept fun b o e => Heap.get?_push_of_some _ e
  have e1 : lo + ((0 : Nat) : Int) * 1 = lo := by simp
  have e2 : (((hi - lo).toNat : Nat) : Int) - ((0 : Nat) : Int) = Builtin.Range.rangeSize lo hi 1 := by rw [rangeSize_one]; split <;> omega
  cases z : Builtin.Range.small lo hi 1 with
  | true =>
    refine wpAny_pyIter_range (IsRange.new ..) z ?_
    refine ⟨_, [_], _, _, H, rfl, I1.kept (t' := tk) fun b o e => Heap.get?_push_of_some _ e, turn_range _ lo (hi - lo).toNat, ?_, fun b hb => ?_, q⟩
    · show IsRangeIter _ _ (lo + ((0 : Nat) : Int) * 1) ((((hi - lo).toNat : Nat) : Int) - ((0 : Nat) : Int)) 1
      rw [e1, e2]
      exact Heap.get?_push_size _ rfl
    · have e := List.mem_singleton.mp hb
      subst e
      exact I1.fpOk (Nat.le_refl _) (I1.hok.fresh (Nat.le_refl _))
  | false =>
    refine wpAny_pyIter_longrange (IsRange.new ..) z ?_
    refine ⟨_, [_], _, _, H, rfl, I1.kept (t' := tk) fun b o e => Heap.get?_push_of_some _ e, turn_longrange _ lo (hi - lo).toNat, ?_, fun b hb => ?_, q⟩
    · show IsLongIter _ _ (lo + ((0 : Nat) : Int) * 1) ((((hi - lo).toNat : Nat) : Int) - ((0 : Nat) : Int)) 1
      rw [e1, e2]
      exact Heap.get?_push_size _ rfl
    · have e := List.mem_singleton.mp hb
      subst e
      exact I1.fpOk (Nat.le_refl _) (I1.hok.fresh (Nat.le_refl _))
def iRngA1 (ta : TA) : TI := fun σ H R => ta σ H fun vs H1 => ∃ j : Int, vs = [.int j] ∧ R (Itr 0 j.toNat) H1
def iRngA2 (ta : TA) : TI := fun σ H R => ta σ H fun vs H1 => ∃ i j : Int, vs = [.int i, .int j] ∧ R (Itr i (j - i).toNat) H1
theorem pi_rangeA1 {a : Expr} {ta : TA} {p pos : Pos} (hg : Gl X "range") (hm : X.mg "range" = none) (ha : PA X [a] ta) (hs : starEach [a] X.env = [(false, eval a X.env)] := by rfl) : PI X tg (.Call (.Name "range" p) [a] [] pos) (iRngA1 ta) := by
  refine ⟨fun pins s σ H R I h => ?_⟩
  refine Call_ (ld_blt I hg hm boot_range (PyProof.Rows.callWith_type1 (thn (ha.run pos pins s σ H _ I h) fun us s1 ⟨vs, H1, I1, r1, q1⟩ => ?_) hs rfl))
  obtain ⟨j, e, q⟩ := q1
  subst e
  cases r1 with
  | cons r rr =>
    cases rr
    obtain ⟨t, rfl⟩ := r
    exact call_range_1 (range_itA I1 (by simpa using q))
theorem pi_rangeA2 {a b : Expr} {ta : TA} {p pos : Pos} (hg : Gl X "range") (hm : X.mg "range" = none) (ha : PA X [a, b] ta) (hs : starEach [a, b] X.env = [(false, eval a X.env), (false, eval b X.env)] := by rfl) (hs2 : starEach [b] X.env = [(false, eval b X.env)] := by rfl) :
    PI X tg (.Call (.Name "range" p) [a, b] [] pos) (iRngA2 ta) := by
  refine ⟨fun pins s σ H R I h => ?_⟩
  refine Call_ (ld_blt I hg hm boot_range (PyProof.Rows.callWith_type1 (thn (ha.run pos pins s σ H _ I h) fun us s1 ⟨vs, H1, I1, r1, q1⟩ => ?_) (by rw [hs, hs2]) (by rw [hs2]; rfl)))
  obtain ⟨i, j, e, q⟩ := q1
  subst e
  cases r1 with
  | cons r rr =>
    cases rr with
    | cons r' rr =>
      cases rr
      obtain ⟨t, rfl⟩ := r
      obtain ⟨t', rfl⟩ := r'
      exact call_range_2 (range_itA I1 q)
end

/-! ### targets of a walk -/
def setV (σ : L2.St) : List Nat → List V → L2.St
  | i :: is, v :: vs => setV (σ.set i (some v)) is vs
  | _, _ => σ
@[simp] def setD (r : Sl) : List Nat → List D → Sl
  | i :: is, d :: ds => setD (r.set i (some d)) is ds
  | _, _ => r
def setK (ks : List Kd) : List Nat → List Kd
  | i :: is => setK (ks.set i .val) is
  | [] => ks
inductive Tg where
  | one (i : Nat)
  | tup (is : List Nat)
@[simp] def Tg.is : Tg → List Nat
  | .one i => [i]
  | .tup is => is
@[simp] def Tg.un : Tg → D → R (List D)
  | .one _, d => .ok [d]
  | .tup is, .tup ds => if ds.length = is.length then .ok ds else .stuck
  | .tup _, _ => .stuck
def WGx (X : Cx) (tg : Expr) : TG := fun v σ H Q => ∃ t, PG X tg t ∧ t v σ H Q
theorem pg_wg {X : Cx} {tg : Expr} : PG X tg (WGx X tg) := ⟨fun pins s σ H v u Q I r ⟨t, p, h⟩ => p.run pins s σ H v u Q I r h⟩
structure SG (X : Cx) (tg : Expr) (t : Tg) : Prop where
  run : ∀ (cl : Cl) (Hs H : Hp) (σ : L2.St) (d : D) (v : V) (ds : List D) (Q : L2.St → Hp → Prop), Same Hs H → Rep cl Hs d v → t.un d = .ok ds → (∀ vs, RepL cl Hs ds vs → Q (setV σ t.is vs) H) → WGx X tg v σ H Q
section
variable {X : Cx} {pos : Pos}
theorem sg_name {i : Nat} {x : Str} (hN : X.N.Nodup) (hi : X.N[i]? = some x := by rfl) (hx : Loc X.env.scope x := by first | exact Or.inl rfl | exact Or.inr rfl)
    (hf : X.fn x = true ∨ X.env.scope.names.lookup x = some .local := by first | exact .inl rfl | exact .inr rfl | assumption) : SG X (.Name x pos) (.one i) := by
  refine ⟨fun cl Hs H σ d v ds Q e r h q => ?_⟩
  cases h
  exact ⟨_, pg_name hN hi hx hf, q [v] (.cons r .nil)⟩
def gsN : List Nat → TGs
  | [] => L2.gNil
  | i :: is => L2.gCons (gName i) (gsN is)
theorem gsN_read : ∀ {is : List Nat} {vs : List V} {σ : L2.St} {H : Hp} {Q : L2.St → Hp → Prop}, vs.length = is.length → Q (setV σ is vs) H → gsN is vs σ H Q
  | [], [], _, _, _, _, q => ⟨rfl, q⟩
  | [], _ :: _, _, _, _, h, _ => by cases h
  | _ :: _, [], _, _, _, h, _ => by cases h
  | i :: is, v :: vs, σ, H, Q, h, q => ⟨v, vs, rfl, gsN_read (by simpa using h) q⟩
theorem sgs_nil : PGs X [] (gsN []) := pgs_nil
theorem sgs_cons {i : Nat} {x : Str} {es : List Expr} {is : List Nat} (hN : X.N.Nodup) (ht : PGs X es (gsN is)) (hi : X.N[i]? = some x := by rfl) (hx : Loc X.env.scope x := by first | exact Or.inl rfl | exact Or.inr rfl)
    (hf : X.fn x = true ∨ X.env.scope.names.lookup x = some .local := by first | exact .inl rfl | exact .inr rfl | assumption)
    (hs : (assignEach (.Name x pos :: es) X.env).map (·.2) = assign (.Name x pos) X.env :: (assignEach es X.env).map (·.2) := by rfl) : PGs X (.Name x pos :: es) (gsN (i :: is)) := pgs_cons (pg_name hN hi hx hf) ht hs
theorem sg_tup {es : List Expr} {is : List Nat} {k : Nat} (hc : X.calm = true) (h : PGs X es (gsN is)) (hn : (assignEach es X.env).length = is.length := by rfl) (hst : (assignEach es X.env).findIdx? (·.1) = none := by rfl) : SG X (.Tuple es k pos) (.tup is) := by
  refine ⟨fun cl Hs H σ d v ds Q e r hu q => ?_⟩
  cases d <;> first | (cases hu; done) | skip
  dsimp only [Tg.un] at hu
  split at hu
  · rename_i hl
    cases hu
    cases r with
    | tup h1 h2 => exact ⟨_, pg_tup hc h hn hst, _, _, rfl, SqT.of (e.at _ _ h1), by rw [h2.length]; exact hl, gsN_read (by rw [h2.length]; exact hl) (q _ h2)⟩
  · cases hu
end
section
variable {E : En} {Hs H : Hp} {ks : List Kd} {r : Sl} {σ : L2.St}
theorem StOk.put {As : List Addr} {i : Nat} {k : Kd} {d : D} {v : V} (S : StOk E Hs H ks r σ As) (hk : ks[i]? = some k) (rp : Rep E.cl Hs d v) : ∃ As', StOk E Hs H (ks.set i .val) (r.set i (some d)) (σ.set i (some v)) As' := by
  obtain ⟨pre, A, post, e, _, f, _, _⟩ := S.sl.at_ i hk
  have sub : (pre ++ ([] ++ post)).Sublist As := by
    rw [e]
    exact List.Sublist.append (List.Sublist.refl _) (by
      rw [List.nil_append]
      exact List.sublist_append_right _ _)
  exact ⟨_, f .val d v [] (.val rp), S.nd.sublist sub, fun a ha => S.dis a (sub.subset ha), S.es, S.sub, S.eb, S.new, S.dom, S.tb⟩
theorem StRel.put {i : Nat} {k : Kd} {d : D} {v : V} (S : StRel E Hs H ks r σ) (hk : ks[i]? = some k) (rp : Rep E.cl Hs d v) : StRel E Hs H (ks.set i .val) (r.set i (some d)) (σ.set i (some v)) :=
  let ⟨_, s⟩ := S
  s.put hk rp
theorem StRel.wipe1 {i : Nat} {k k' : Kd} (S : StRel E Hs H ks r σ) (hk : ks[i]? = some k) (x : Option V) : StRel E Hs H (ks.set i k') (r.set i none) (σ.set i x) := by
  obtain ⟨As, S⟩ := S
  obtain ⟨pre, A, post, e, _, _, f, _⟩ := S.sl.at_ i hk
  have sub : (pre ++ post).Sublist As := by
    rw [e]
    exact List.Sublist.append (List.Sublist.refl _) (List.sublist_append_right _ _)
  exact ⟨_, f k' x, S.nd.sublist sub, fun a ha => S.dis a (sub.subset ha), S.es, S.sub, S.eb, S.new, S.dom, S.tb⟩
theorem StRel.puts : ∀ {is : List Nat} {ks : List Kd} {r : Sl} {σ : L2.St} {ds : List D} {vs : List V}, StRel E Hs H ks r σ → (∀ i ∈ is, i < ks.length) → ds.length = is.length → RepL E.cl Hs ds vs → StRel E Hs H (setK ks is) (setD r is ds) (setV σ is vs)
  | [], _, _, _, [], _, S, _, _, rp => by cases rp; exact S
  | [], _, _, _, _ :: _, _, _, _, h, _ => by cases h
  | _ :: _, _, _, _, [], _, _, _, h, _ => by cases h
  | i :: is, ks, r, σ, d :: ds, _, S, hi, hl, rp => by
    cases rp with
    | cons r1 r2 =>
      have h0 := hi i List.mem_cons_self
      refine StRel.puts (is := is) (S.put (k := ks[i]) (by simp [h0]) r1) (fun j hj => ?_) (by simpa using hl) r2
      rw [List.length_set]
      exact hi j (List.mem_cons_of_mem _ hj)
end
theorem Tg.un_len {t : Tg} {d : D} {ds : List D} (h : t.un d = .ok ds) : ds.length = t.is.length := by
  cases t with
  | one i => cases h; rfl
  | tup is =>
    cases d <;> first | (cases h; done) | skip
    dsimp only [Tg.un] at h
    split at h
    · rename_i e
      cases h
      exact e
    · cases h

/-! ### what is walked -/
/-- all lists are within the line -/
def LenOk (H : Hp) : Prop := ∀ a xs, H a = some (.lst xs) → xs.length ≤ szL
def LenOkT (H : Hp) : Prop := ∀ a xs, H a = some (.tup xs) → xs.length ≤ szL
theorem Inv.lens {X : Cx} {pins : List (Addr × Obj)} {σ : L2.St} {H : Hp} {s : Shared} (I : Inv X pins σ H s) : LenOk H ∧ LenOkT H :=
  ⟨fun a xs e => by
    have q := (I.hok a _ e).1
    rw [szL_eq] at q
    exact q, fun a xs e => by
    have q := (I.hok a _ e).1
    rw [szL_eq] at q
    exact q⟩
theorem we_len {X : Cx} {e : Expr} {σ : L2.St} {H : Hp} {Q : VK} (h : WEx X e σ H fun v H' => LenOk H' ∧ LenOkT H' → Q v H') : WEx X e σ H Q := fun pins s I => thn (h pins s I) fun u s' ⟨v, H', I', r, q⟩ => ⟨v, H', I', r, q (VL.Inv.lens I')⟩
structure ItOk (cl : Cl) (J : It) (ds : List D) (Hs1 Bq : Hp) : Prop where
  len : ds.length ≤ szL
  go : ∀ Hs H, Same Hs1 Hs → Same Hs H → Same Bq H → ∀ i, i < ds.length → J.go i H
  stop : ∀ Hs H, Same Hs1 Hs → Same Hs H → Same Bq H → J.stop ds.length H
  yld : ∀ Hs H, Same Hs1 Hs → Same Hs H → Same Bq H → ∀ i d x H', ds[i]? = some d → J.yld i H x H' → ∃ Hs', Grow Hs H Hs' H' ∧ Rep cl Hs' d x
/-- what may be walked while others change: stable, or borrowed from the caller; md = false: while nothing is changed -/
inductive RQ (cl : Cl) (Hs Bq : Hp) : D → V → Prop
  | val {d : D} {v : V} : Rep cl Hs d v → RQ cl Hs Bq d v
  | lst {a : Addr} {ds : List D} {xs : List V} : Bq a = some (.lst xs) → RepL cl Hs ds xs → RQ cl Hs Bq (.lst ds) (.ref a)
  | dct {a : Addr} {ds : List (Key × D)} {xs : List (Key × V)} : Rd Bq a (.dK xs) → RepK cl Hs ds xs → RQ cl Hs Bq (.dct ds) (.ref a)
  | obj {C : Str} {ds : List (Str × D)} {v : V} : RQ cl Hs Bq (.obj C ds) v
def bq (E : En) (md : Bool) (H : Hp) : Hp := if md then E.b else H
def PostQ (E : En) (md : Bool) (Hs H : Hp) (Q : VK) (W : WX0) : R D → Prop
  | .stuck => False
  | .exc x => ∀ c dd Hs' H', Grow Hs H Hs' H' → XRep E.cl Hs' H' x c dd → W c dd H'
  | .ok d => ∀ v Hs' H', Grow Hs H Hs' H' → RQ E.cl Hs' (bq E md H') d v → Q v H'
theorem PostQ.grow {E : En} {md : Bool} {Hs H Hs' H' : Hp} {Q : VK} {W : WX0} {r : R D} (P : PostQ E md Hs H Q W r) (g : Grow Hs H Hs' H') : PostQ E md Hs' H' Q W r := by
  cases r with
  | stuck => exact P
  | exc x => exact fun c dd Hs2 H2 g2 x2 => P c dd Hs2 H2 (g.trans g2) x2
  | ok d => exact fun v Hs2 H2 g2 => P v Hs2 H2 (g.trans g2)
structure SQ (X : Cx) (E : En) (ks : List Kd) (md : Bool) (e : Expr) (g : Sl → R D) : Prop where
  run : ∀ (Hs H : Hp) (r : Sl) (σ : L2.St) (W : WX) (Q : VK), Takes X W → StRel E Hs H ks r σ → PostQ E md Hs H Q (fun c dd H' => W c dd σ H') (g r) → WEx X e σ H Q
section
variable {X : Cx} {E : En} {ks : List Kd} {md : Bool} {e : Expr} {g : Sl → R D} {pos : Pos}
theorem sq_val (h : SE X E ks .val e g) : SQ X E ks md e g := by
  refine ⟨fun Hs H r σ W Q tk S P => ?_⟩
  refine h.run _ _ _ _ _ _ tk S ?_
  cases q : g r with
  | stuck => rw [q] at P; exact P
  | exc x => rw [q] at P; exact P
  | ok d =>
    rw [q] at P
    exact fun v Hs' H' g1 k1 => P v Hs' H' g1 (.val k1.rep)
theorem sq_bor (h : SE X E ks .bor e g) : SQ X E ks false e g := by
  refine ⟨fun Hs H r σ W Q tk S P => ?_⟩
  refine h.run _ _ _ _ _ _ tk S ?_
  cases q : g r with
  | stuck => rw [q] at P; exact P
  | exc x => rw [q] at P; exact P
  | ok d =>
    rw [q] at P
    intro v Hs' H' g1 k1
    refine P v Hs' H' g1 ?_
    cases k1.rb with
    | val h1 => exact .val h1
    | lst h1 h2 => exact .lst h1 h2
    | dct h1 h2 => exact .dct h1 h2
    | obj _ _ _ => exact .obj
theorem sq_par {i : Nat} {x : Str} (hk : ks[i]? = some .bor := by rfl) (hN : X.N[i]? = some x := by rfl) (hv : Vis X.env.scope x := by first | exact Or.inl rfl | exact Or.inr (Or.inl rfl) | exact Or.inr (Or.inr rfl))
    (hq : NmOk x) : SQ X E ks true (.Name x pos) (gVar i) := by
  refine ⟨fun Hs H r σ W Q tk S P => ?_⟩
  refine we_of (pe_var hN hv hq.1 hq.2) ?_
  cases q : gVar i r with
  | stuck => rw [q] at P; exact P.elim
  | exc x => exact (gVar_exc q).elim
  | ok d =>
    rw [q] at P
    obtain ⟨v, A, e, o⟩ := S.get hk (gVar_ok q)
    refine ⟨v, e, P v Hs H (Grow.refl S.sub) ?_⟩
    cases o with
    | borV rp => exact .val rp
    | borL h1 h2 => exact .lst h1 h2
    | borK h1 h2 => exact .dct h1 h2
    | borO _ _ _ => exact .obj
end
def WIx (X : Cx) (tg iter : Expr) : TI := fun σ H R => ∃ wi, PI X tg iter wi ∧ wi σ H R
theorem pi_wi {X : Cx} {tg iter : Expr} : PI X tg iter (WIx X tg iter) := ⟨fun pins s σ H R I ⟨wi, p, h⟩ => p.run pins s σ H R I h⟩
def PostI (E : En) (md : Bool) (Hs H : Hp) (Rr : It → Hp → Prop) (W : WX0) : R (List D) → Prop
  | .stuck => False
  | .exc x => ∀ c dd Hs' H', Grow Hs H Hs' H' → XRep E.cl Hs' H' x c dd → W c dd H'
  | .ok ds => ∀ J Hs' H', Grow Hs H Hs' H' → ItOk E.cl J ds Hs' (bq E md H') → Rr J H'
theorem PostI.grow {E : En} {md : Bool} {Hs H Hs' H' : Hp} {Q : It → Hp → Prop} {W : WX0} {r : R (List D)} (P : PostI E md Hs H Q W r) (g : Grow Hs H Hs' H') : PostI E md Hs' H' Q W r := by
  cases r with
  | stuck => exact P
  | exc x => exact fun c dd Hs2 H2 g2 x2 => P c dd Hs2 H2 (g.trans g2) x2
  | ok d => exact fun v Hs2 H2 g2 => P v Hs2 H2 (g.trans g2)
structure SI (X : Cx) (E : En) (ks : List Kd) (md : Bool) (tg iter : Expr) (g : Sl → R (List D)) : Prop where
  run : ∀ (Hs H : Hp) (r : Sl) (σ : L2.St) (W : WX) (Q : It → Hp → Prop), Takes X W → StRel E Hs H ks r σ → PostI E md Hs H Q (fun c dd H' => W c dd σ H') (g r) → WIx X tg iter σ H Q
/-- what is walked of a value -/
@[simp] def dIter : D → R (List D)
  | .lst ds => .ok ds
  | .tup ds => .ok ds
  | .str x => if x.cps.size ≤ szL then .ok (x.cps.toList.map fun c => .str ⟨#[c]⟩) else .stuck
  | _ => .stuck
@[simp] def gIter (g : Sl → R D) : Sl → R (List D) := fun r => do
  let d ← g r
  dIter d
section
variable {X : Cx} {E : En} {ks : List Kd} {md : Bool} {tg e e2 : Expr} {g g2 : Sl → R D} {pos p : Pos}
theorem PostQ.ofI {Hs H : Hp} {Q : It → Hp → Prop} {W : WX0} {r : R D} {f : D → R (List D)} (P : PostI E md Hs H Q W (r >>= f)) {Q1 : VK}
    (h : ∀ d v Hs' H', r = .ok d → Grow Hs H Hs' H' → RQ E.cl Hs' (bq E md H') d v → PostI E md Hs' H' Q W (f d) → Q1 v H') : PostQ E md Hs H Q1 W r := by
  cases r with
  | stuck => exact P
  | exc x => exact P
  | ok d => exact fun v Hs' H' g rk => h d v Hs' H' rfl g rk (PostI.grow (r := f d) P g)
theorem RQ.root {cl : Cl} {Hs Bq H Hs' : Hp} {ds : List D} {v : V} (q : RQ cl Hs Bq (.lst ds) v) : ∃ a xs, v = .ref a ∧ RepL cl Hs ds xs ∧ ∀ Hs' H, Same Hs Hs' → Same Hs' H → Same Bq H → H a = some (.lst xs) := by
  cases q with
  | val r =>
    cases r with
    | lst h1 h2 => exact ⟨_, _, rfl, h2, fun Hs' H e1 e2 _ => e2.at _ _ (e1.at _ _ h1)⟩
  | lst h1 h2 => exact ⟨_, _, rfl, h2, fun Hs' H _ _ e3 => e3.at _ _ h1⟩
theorem bq_same {H : Hp} (hb : Same E.b H) : Same (bq E md H) H := by
  unfold bq
  split
  · exact hb
  · exact Same.refl _
theorem ItOk.lst {K : PySem.W.Frag} {cl : Cl} {a : Addr} {xs : List V} {ds : List D} {Hs Bq : Hp} (rp : RepL cl Hs ds xs) (rt : ∀ Hs' H, Same Hs Hs' → Same Hs' H → Same Bq H → H a = some (.lst xs)) (hz : xs.length ≤ szL) : ItOk cl (Itl K a) ds Hs Bq where
  len := by rw [← rp.length]; exact hz
  go := fun Hs' H e1 e2 e3 i hi => by
    obtain ⟨v, e, _⟩ := rp.get (d := ds[i]) (i := i) (by simp [hi])
    exact ⟨xs, v, SqL.of (rt Hs' H e1 e2 e3), e⟩
  stop := fun Hs' H e1 e2 e3 => ⟨xs, SqL.of (rt Hs' H e1 e2 e3), by rw [rp.length]; exact Nat.le_refl _⟩
  yld := fun Hs' H e1 e2 e3 i d x H' hd y => by
    obtain ⟨rfl, y⟩ := y
    obtain ⟨v, e, r⟩ := rp.get hd
    have q := y xs (SqL.of (rt Hs' _ e1 e2 e3))
    rw [e] at q
    cases q
    exact ⟨Hs', Grow.refl e2, Rep.same e1 _ _ r⟩
theorem ItOk.tup {K : PySem.W.Frag} {cl : Cl} {a : Addr} {xs : List V} {ds : List D} {Hs Bq : Hp} (rp : RepL cl Hs ds xs) (ha : Hs a = some (.tup xs)) (hz : xs.length ≤ szL) : ItOk cl (Itt K a) ds Hs Bq where
  len := by rw [← rp.length]; exact hz
  go := fun Hs' H e1 e2 e3 i hi => by
    obtain ⟨v, e, _⟩ := rp.get (d := ds[i]) (i := i) (by simp [hi])
    exact ⟨xs, v, SqT.of (e2.at _ _ (e1.at _ _ ha)), e⟩
  stop := fun Hs' H e1 e2 e3 => ⟨xs, SqT.of (e2.at _ _ (e1.at _ _ ha)), by rw [rp.length]; exact Nat.le_refl _⟩
  yld := fun Hs' H e1 e2 e3 i d x H' hd y => by
    obtain ⟨rfl, y⟩ := y
    obtain ⟨v, e, r⟩ := rp.get hd
    have q := y xs (SqT.of (e2.at _ _ (e1.at _ _ ha)))
    rw [e] at q
    cases q
    exact ⟨Hs', Grow.refl e2, Rep.same e1 _ _ r⟩
theorem ItOk.str {cl : Cl} {x : Str} {Hs Bq : Hp} (hz : x.cps.size ≤ szL) : ItOk cl (Its x) (x.cps.toList.map fun c => .str ⟨#[c]⟩) Hs Bq where
  len := by rw [List.length_map]; exact hz
  go := fun Hs' H e1 e2 e3 i hi => by
    rw [List.length_map] at hi
    exact hi
  stop := fun Hs' H e1 e2 e3 => by
    show x.cps.size ≤ _
    rw [List.length_map]
    exact Nat.le_refl _
  yld := fun Hs' H e1 e2 e3 i d v H' hd y => by
    obtain ⟨rfl, c, hc, rfl⟩ := y
    rw [List.getElem?_map, Array.getElem?_toList, hc] at hd
    cases hd
    exact ⟨Hs', Grow.refl e2, .str _⟩
theorem si_it (h : SQ X E ks md e g) : SI X E ks md tg e (gIter g) := by
  refine ⟨fun Hs H r σ W Q tk S P => ?_⟩
  have sb : Same E.b H := let ⟨_, s⟩ := S; s.eb
  unfold gIter at P
  have key : ∀ (wi : TI) (Q1 : VK), PI X tg e wi → (WEx X e σ H Q1 → wi σ H Q) → WEx X e σ H Q1 → WIx X tg e σ H Q := fun wi Q1 p f w => ⟨wi, p, f w⟩
  cases q : g r with
  | stuck => rw [q] at P; exact P.elim
  | exc x =>
    refine ⟨_, pi_list pe_we, ?_⟩
    refine h.run _ _ _ _ _ _ tk S ?_
    rw [q] at P ⊢
    exact P
  | ok d =>
    cases d with
    | lst ds =>
      refine ⟨_, pi_list pe_we, ?_⟩
      refine we_len (h.run _ _ _ _ _ _ tk S (PostQ.ofI P fun d v Hs1 H1 e1 g1 k1 P1 => ?_))
      rw [q] at e1
      cases e1
      obtain ⟨a, xs, rfl, rp, rt⟩ := k1.root (H := H1) (Hs' := Hs1)
      intro hl
      have e0 := rt Hs1 H1 (Same.refl _) g1.sub (bq_same (sb.trans g1.h))
      exact ⟨a, rfl, ⟨xs, SqL.of e0⟩, P1 _ Hs1 H1 (Grow.refl g1.sub) (ItOk.lst rp rt (hl.1 _ _ e0))⟩
    | tup ds =>
      refine ⟨_, pi_tup pe_we, ?_⟩
      refine we_len (h.run _ _ _ _ _ _ tk S (PostQ.ofI P fun d v Hs1 H1 e1 g1 k1 P1 => ?_))
      rw [q] at e1
      cases e1
      intro hl
      cases k1 with
      | val k =>
        cases k with
        | tup h1 h2 =>
          have e0 := g1.sub.at _ _ h1
          exact ⟨_, rfl, ⟨_, SqT.of e0⟩, P1 _ Hs1 H1 (Grow.refl g1.sub) (ItOk.tup h2 h1 (hl.2 _ _ e0))⟩
    | str x =>
      refine ⟨_, pi_str pe_we, ?_⟩
      refine h.run _ _ _ _ _ _ tk S (PostQ.ofI P fun d v Hs1 H1 e1 g1 k1 P1 => ?_)
      rw [q] at e1
      cases e1
      cases k1 with
      | val k =>
        cases k
        dsimp only [dIter] at P1
        split at P1
        · rename_i hz
          exact ⟨_, rfl, P1 _ Hs1 H1 (Grow.refl g1.sub) (ItOk.str hz)⟩
        · exact P1.elim
    | _ => rw [q] at P; exact P.elim
/-- lo, lo + 1, .. -/
def rangeD (lo : Int) (n : Nat) : List D := (List.range n).map fun (i : Nat) => D.int (lo + i)
theorem rangeD_len (lo : Int) (n : Nat) : (rangeD lo n).length = n := by simp [rangeD]
theorem ItOk.rng {cl : Cl} {lo : Int} {n : Nat} {Hs Bq : Hp} (hz : n ≤ szL) : ItOk cl (Itr lo n) (rangeD lo n) Hs Bq where
  len := by rw [rangeD_len]; exact hz
  go := fun Hs' H e1 e2 e3 i hi => by rw [rangeD_len] at hi; exact hi
  stop := fun Hs' H e1 e2 e3 => by rw [rangeD_len]; exact Nat.le_refl n
  yld := fun Hs' H e1 e2 e3 i d v H' hd y => by
    obtain ⟨rfl, rfl⟩ := y
    unfold rangeD at hd
    rw [List.getElem?_map] at hd
    by_cases hi : i < n
    · rw [List.getElem?_range hi] at hd
      cases hd
      exact ⟨Hs', Grow.refl e2, .int _⟩
    · rw [List.getElem?_eq_none (by simpa using hi)] at hd
      cases hd
def dRange1 : D → R (List D)
  | .int j => if j.toNat ≤ szL then .ok (rangeD 0 j.toNat) else .stuck
  | _ => .stuck
def dRange2 : D → D → R (List D)
  | .int i, .int j => if (j - i).toNat ≤ szL then .ok (rangeD i (j - i).toNat) else .stuck
  | _, _ => .stuck
@[simp] def gRange1 (g : Sl → R D) : Sl → R (List D) := fun r => do
  let d ← g r
  dRange1 d
@[simp] def gRange2 (g g2 : Sl → R D) : Sl → R (List D) := fun r => do
  let d ← g r
  let d2 ← g2 r
  dRange2 d d2
theorem Post.ofI {k : Kd} {Hs H : Hp} {Q : It → Hp → Prop} {W : WX0} {r : R D} {f : D → R (List D)} (P : PostI E md Hs H Q W (r >>= f)) {Q1 : VK}
    (h : ∀ d v Hs' H', r = .ok d → Grow Hs H Hs' H' → RK E.cl k H Hs' H' d v → PostI E md Hs' H' Q W (f d) → Q1 v H') : Post E.cl k Hs H Q1 W r := by
  cases r with
  | stuck => exact P
  | exc x => exact P
  | ok d => exact fun v Hs' H' g rk => h d v Hs' H' rfl g rk (PostI.grow (r := f d) P g)
theorem wa_one {σ : L2.St} {H : Hp} {Q : List V → Hp → Prop} (h : WEx X e σ H fun v H' => Q [v] H') (hs : starEach (e :: []) X.env = (false, eval e X.env) :: starEach [] X.env := by rfl) : WAx X [e] σ H Q := wa_of (pa_cons pe_we pa_nil hs) h
theorem wa_two {σ : L2.St} {H : Hp} {Q : List V → Hp → Prop} (h : WEx X e σ H fun v H' => WEx X e2 σ H' fun v2 H2 => Q [v, v2] H2) (hs : starEach (e :: [e2]) X.env = (false, eval e X.env) :: starEach [e2] X.env := by rfl) (hs2 : starEach (e2 :: []) X.env = (false, eval e2 X.env) :: starEach [] X.env := by rfl) : WAx X [e, e2] σ H Q :=
  wa_of (pa_cons pe_we (pa_cons pe_we pa_nil hs2) hs) h
theorem si_range1 (hm : X.mg "range" = none) (h : SE X E ks .bor e g) (hg : Gl X "range" := by rfl) (hs : starEach [e] X.env = [(false, eval e X.env)] := by rfl) : SI X E ks md tg (.Call (.Name "range" p) [e] [] pos) (gRange1 g) := by
  refine ⟨fun Hs H r σ W Q tk S P => ?_⟩
  refine ⟨_, pi_rangeA1 hg hm pa_wa hs, ?_⟩
  refine wa_one (h.run _ _ _ _ _ _ tk S (Post.ofI P fun d v Hs1 H1 e1 g1 k1 P1 => ?_)) hs
  cases d <;> first | exact P1.elim | skip
  cases k1.rb.intInv
  dsimp only [dRange1] at P1
  split at P1
  · rename_i z
    exact ⟨_, rfl, P1 _ Hs1 H1 (Grow.refl g1.sub) (ItOk.rng z)⟩
  · exact P1.elim
theorem si_range2 (hm : X.mg "range" = none) (h : SE X E ks .bor e g) (h2 : SE X E ks .bor e2 g2) (hg : Gl X "range" := by rfl) (hs : starEach [e, e2] X.env = [(false, eval e X.env), (false, eval e2 X.env)] := by rfl) (hs2 : starEach [e2] X.env = [(false, eval e2 X.env)] := by rfl) :
    SI X E ks md tg (.Call (.Name "range" p) [e, e2] [] pos) (gRange2 g g2) := by
  refine ⟨fun Hs H r σ W Q tk S P => ?_⟩
  refine ⟨_, pi_rangeA2 hg hm pa_wa hs hs2, ?_⟩
  refine wa_two (h.run _ _ _ _ _ _ tk S (Post.ofI (f := fun d => g2 r >>= fun d2 => dRange2 d d2) P fun d v Hs1 H1 e1 g1 k1 P1 => ?_)) (by rw [hs, hs2]) hs2
  refine h2.run _ _ _ _ _ _ tk (S.grow g1) (Post.ofI P1 fun d2 v2 Hs2 H2 e2 gg k2 P2 => ?_)
  cases d <;> cases d2 <;> first | exact P2.elim | skip
  cases k1.rb.intInv
  cases k2.rb.intInv
  dsimp only [dRange2] at P2
  split at P2
  · rename_i z
    exact ⟨_, _, rfl, P2 _ Hs2 H2 (Grow.refl gg.sub) (ItOk.rng z)⟩
  · exact P2.elim
end

/-! ### list comprehensions -/
def mapR {α β : Type} (f : α → R β) : List α → R (List β)
  | [] => .ok []
  | a :: l => do
    let b ← f a
    let bs ← mapR f l
    .ok (b :: bs)
theorem mapR_ok {α β : Type} {f : α → R β} : ∀ {l : List α} {bs : List β}, mapR f l = .ok bs → bs.length = l.length ∧ ∀ (i : Nat) a, l[i]? = some a → ∃ b, bs[i]? = some b ∧ f a = .ok b
  | [], bs, h => by
    cases h
    exact ⟨rfl, fun i a z => by simp at z⟩
  | a :: l, bs, h => by
    dsimp only [mapR] at h
    cases q : f a with
    | stuck => rw [q] at h; cases h
    | exc x => rw [q] at h; cases h
    | ok b =>
      rw [q] at h
      cases q2 : mapR f l with
      | stuck => rw [q2] at h; cases h
      | exc x => rw [q2] at h; cases h
      | ok bs' =>
        rw [q2] at h
        cases h
        obtain ⟨h1, h2⟩ := mapR_ok q2
        refine ⟨by simp [h1], fun i a' z => ?_⟩
        cases i with
        | zero =>
          simp at z
          subst z
          exact ⟨b, rfl, q⟩
        | succ i =>
          obtain ⟨b', e, e2⟩ := h2 i a' (by simpa using z)
          exact ⟨b', by simpa using e, e2⟩
def noX {α : Type} : R α → R α
  | .ok a => .ok a
  | _ => .stuck
theorem noX_ok {α : Type} {r : R α} {a : α} (h : noX r = .ok a) : r = .ok a := by
  cases r <;> first | cases h | skip
  rfl
@[simp] def wipeD (r : Sl) : List Nat → Sl
  | [] => r
  | v :: vs => (wipeD r vs).set v none
def wipeK (ks : List Kd) : List Nat → List Kd
  | [] => ks
  | v :: vs => (wipeK ks vs).set v .val
/-- one turn of a comprehension -/
def gTurn (t : Tg) (vs : List Nat) (tt : Sl → R Bool) (ge : Sl → R D) (r : Sl) (d : D) : R (Option D) := do
  let xs ← t.un d
  let b ← tt (setD (wipeD r vs) t.is xs)
  if b then (do
    let y ← ge (setD (wipeD r vs) t.is xs)
    .ok (some y)) else .ok none
def gComp (gi : Sl → R (List D)) (t : Tg) (vs : List Nat) (tt : Sl → R Bool) (ge : Sl → R D) : Sl → R D := fun r => do
  let ds ← gi r
  let os ← noX (mapR (gTurn t vs tt ge r) ds)
  .ok (.lst (os.filterMap id))

@[simp] def gYes : Sl → R Bool := fun _ => .ok true
def WPs (X : Cx) (ifs : List Expr) : TT := fun σ H Q => ∃ t, PTs X ifs t ∧ t σ H Q
theorem pts_wp {X : Cx} {ifs : List Expr} : PTs X ifs (WPs X ifs) := ⟨fun pins s σ H Q I ⟨t, p, h⟩ => p.run pins s σ H Q I h⟩
structure SP1 (X : Cx) (E : En) (ks : List Kd) (ifs : List Expr) (g : Sl → R Bool) : Prop where
  run : ∀ (Hs H : Hp) (r : Sl) (σ : L2.St) (W : WX) (Q : Bool → Hp → Prop), Takes X W → StRel E Hs H ks r σ → PostT E.cl Hs H Q (fun c dd H' => W c dd σ H') (g r) → WPs X ifs σ H Q
theorem sp_nil {X : Cx} {E : En} {ks : List Kd} : SP1 X E ks [] gYes := ⟨fun Hs H r σ W Q tk S P => ⟨_, pts_nil, P Hs H (Grow.refl S.sub)⟩⟩
theorem sp_one {X : Cx} {E : En} {ks : List Kd} {c : Expr} {g : Sl → R Bool} (h : ST X E ks c g) : SP1 X E ks [c] g := ⟨fun Hs H r σ W Q tk S P => ⟨_, pts_one pt_wt, h.run _ _ _ _ _ _ tk S P⟩⟩
theorem takesF {X : Cx} : Takes X (fun _ _ _ _ => False) := fun _ _ x => by
  obtain ⟨_, _, _, _, _, _, _, _, _, _, _, _, _, _, _, _, z⟩ := x
  exact z.elim
theorem StRel.wipe {E : En} {Hs H : Hp} {r : Sl} {σ : L2.St} {ks : List Kd} (S : StRel E Hs H ks r σ) : ∀ (vs : List Nat), (∀ i ∈ vs, i < ks.length) → StRel E Hs H (wipeK ks vs) (wipeD r vs) (wipe σ vs) ∧ (wipeK ks vs).length = ks.length
  | [], _ => ⟨S, rfl⟩
  | v :: vs, h => by
    obtain ⟨q, l⟩ := StRel.wipe S vs fun i hi => h i (List.mem_cons_of_mem _ hi)
    have hv : v < (wipeK ks vs).length := by rw [l]; exact h v List.mem_cons_self
    refine ⟨q.wipe1 (k := (wipeK ks vs)[v]) (by simp [hv]) none, ?_⟩
    show ((wipeK ks vs).set v .val).length = _
    rw [List.length_set, l]
theorem wipe_set {σ : L2.St} {i : Nat} {x : V} : ∀ {vs : List Nat}, i ∈ vs → wipe (σ.set i (some x)) vs = wipe σ vs
  | [], h => by cases h
  | v :: vs, h => by
    by_cases hm : i ∈ vs
    · show (wipe (σ.set i (some x)) vs).set v none = (wipe σ vs).set v none
      rw [wipe_set hm]
    · have e : i = v := by
        rcases List.mem_cons.mp h with z | z
        · exact z
        · exact absurd z hm
      subst e
      have key : ∀ (vs : List Nat) (σ : L2.St), i ∉ vs → wipe (σ.set i (some x)) vs = (wipe σ vs).set i (some x) := by
        intro vs
        induction vs with
        | nil => intro σ _; rfl
        | cons w ws ih =>
          intro σ hn
          have h1 : i ≠ w := fun z => hn (z ▸ List.mem_cons_self)
          show (wipe (σ.set i (some x)) ws).set w none = ((wipe σ ws).set w none).set i (some x)
          rw [ih σ fun z => hn (List.mem_cons_of_mem _ z), List.set_comm _ _ h1]
      show (wipe (σ.set i (some x)) vs).set i none = (wipe σ vs).set i none
      rw [key vs σ hm, List.set_set]
theorem wipe_setV : ∀ {is : List Nat} {xs : List V} {σ : L2.St} {vs : List Nat}, (∀ i ∈ is, i ∈ vs) → wipe (setV σ is xs) vs = wipe σ vs
  | [], [], _, _, _ => rfl
  | [], _ :: _, _, _, _ => rfl
  | _ :: _, [], _, _, _ => rfl
  | i :: is, x :: xs, σ, vs, h => by
    show wipe (setV (σ.set i (some x)) is xs) vs = _
    rw [wipe_setV fun j hj => h j (List.mem_cons_of_mem _ hj), wipe_set (h i List.mem_cons_self)]
theorem setV_mem {is : List Nat} {xs : List V} {σ : L2.St} : (setV σ is xs).length = σ.length := by
  induction is generalizing xs σ with
  | nil => cases xs <;> rfl
  | cons i is ih =>
    cases xs with
    | nil => rfl
    | cons x xs =>
      show (setV (σ.set i (some x)) is xs).length = _
      rw [ih, List.length_set]
theorem wipe_idem {σ : L2.St} : ∀ (vs : List Nat), wipe (wipe σ vs) vs = wipe σ vs := fun vs => by
  have key : ∀ (ws : List Nat) (τ : L2.St), (∀ i ∈ ws, τ[i]? = some none ∨ τ[i]? = none) → wipe τ ws = τ := by
    intro ws
    induction ws with
    | nil => intro τ _; rfl
    | cons w ws ih =>
      intro τ h
      show (wipe τ ws).set w none = τ
      rw [ih τ fun i hi => h i (List.mem_cons_of_mem _ hi)]
      rcases h w List.mem_cons_self with e | e
      · obtain ⟨hw, e2⟩ := List.getElem?_eq_some_iff.mp e
        rw [← e2, List.set_getElem_self]
      · rw [List.set_eq_of_length_le (by simpa using e)]
  refine key vs _ fun i hi => ?_
  cases q : (wipe σ vs)[i]? with
  | none => exact .inr rfl
  | some o =>
    cases o with
    | none => exact .inl rfl
    | some x => exact absurd hi (wipe_some q).2
theorem filterMap_take {os : List (Option D)} {i : Nat} {o : Option D} (h : os[i]? = some o) : (os.take (i + 1)).filterMap id = (os.take i).filterMap id ++ o.toList := by
  rw [List.take_add_one, h, List.filterMap_append]
  cases o <;> rfl
def rdG (X : Cx) (scope : Scope) (tg : Expr) : TG := fun v σ H Q => ∀ (s : Shared) (H0 : Hp) (C : Addr) (cl : List (Str × Addr)) (fp : List Addr), WGx (X.blk s H0 scope (compEnvC scope cl C X.env) fp) tg v σ H Q
def rdT (X : Cx) (scope : Scope) (ifs : List Expr) : TT := fun σ H Q => ∀ (s : Shared) (H0 : Hp) (C : Addr) (cl : List (Str × Addr)) (fp : List Addr), WPs (X.blk s H0 scope (compEnvC scope cl C X.env) fp) ifs σ H Q
def rdE (X : Cx) (scope : Scope) (elt : Expr) : TE := fun σ H Q => ∀ (s : Shared) (H0 : Hp) (C : Addr) (cl : List (Str × Addr)) (fp : List Addr), WEx (X.blk s H0 scope (compEnvC scope cl C X.env) fp) elt σ H Q
theorem pg_rd {X : Cx} {scope : Scope} {tg : Expr} (s : Shared) (H : Hp) (C : Addr) (cl : List (Str × Addr)) (fp : List Addr) : PG (X.blk s H scope (compEnvC scope cl C X.env) fp) tg (rdG X scope tg) :=
  ⟨fun pins s' σ H' v u Q' I r h => pg_wg.run pins s' σ H' v u Q' I r (h s H C cl fp)⟩
theorem pts_rd {X : Cx} {scope : Scope} {ifs : List Expr} (s : Shared) (H : Hp) (C : Addr) (cl : List (Str × Addr)) (fp : List Addr) : PTs (X.blk s H scope (compEnvC scope cl C X.env) fp) ifs (rdT X scope ifs) :=
  ⟨fun pins s' σ H' Q' I h => pts_wp.run pins s' σ H' Q' I (h s H C cl fp)⟩
theorem pe_rd {X : Cx} {scope : Scope} {elt : Expr} (s : Shared) (H : Hp) (C : Addr) (cl : List (Str × Addr)) (fp : List Addr) : PE (X.blk s H scope (compEnvC scope cl C X.env) fp) elt (rdE X scope elt) :=
  ⟨fun pins s' σ H' Q' I h => h s H C cl fp pins s' I⟩
/-- the reading of a comprehension -/
theorem comp_read {X : Cx} {E : En} {ks : List Kd} {elt tg iter : Expr} {ifs : List Expr} {scope : Scope} {vs : List Nat} {t : Tg} {gi : Sl → R (List D)} {tt : Sl → R Bool} {ge : Sl → R D}
    (hi : SI X E ks false tg iter gi) (hv : ∀ i ∈ vs, i < ks.length) (hm : ∀ i ∈ t.is, i ∈ vs)
    (hg : ∀ (s : Shared) (H : Hp) (C : Addr) (cl : List (Str × Addr)) (fp : List Addr), SG (X.blk s H scope (compEnvC scope cl C X.env) fp) tg t)
    (ht : ∀ (s : Shared) (H : Hp) (C : Addr) (cl : List (Str × Addr)) (fp : List Addr), SP1 (X.blk s H scope (compEnvC scope cl C X.env) fp) E (setK (wipeK ks vs) t.is) ifs tt)
    (he : ∀ (s : Shared) (H : Hp) (C : Addr) (cl : List (Str × Addr)) (fp : List Addr), SE (X.blk s H scope (compEnvC scope cl C X.env) fp) E (setK (wipeK ks vs) t.is) .val elt ge)
    {Hs H : Hp} {r : Sl} {σ : L2.St} {W : WX} {Q : VK} (tk : Takes X W) (S : StRel E Hs H ks r σ) (P : Post E.cl (.own none) Hs H Q (fun c dd H' => W c dd σ H') (gComp gi t vs tt ge r)) :
    tLc (WIx X tg iter) (rdG X scope tg) (rdT X scope ifs) (rdE X scope elt) vs σ H Q := by
  refine hi.run _ _ _ _ _ _ tk S ?_
  unfold gComp at P
  cases q : gi r with
  | stuck => rw [q] at P; exact P
  | exc x => rw [q] at P; exact P
  | ok ds =>
    rw [q] at P
    intro J Hs1 H1 g1 J1 D hD
    have P1 := Post.grow (r := noX (mapR (gTurn t vs tt ge r) ds) >>= fun os => R.ok (VL.D.lst (os.filterMap id))) P g1
    cases q2 : noX (mapR (gTurn t vs tt ge r) ds) with
    | stuck => rw [q2] at P1; exact P1.elim
    | exc x =>
      cases q3 : mapR (gTurn t vs tt ge r) ds <;> rw [q3] at q2 <;> cases q2
    | ok os =>
      rw [q2] at P1
      obtain ⟨hlen, hturn⟩ := mapR_ok (noX_ok q2)
      have P1' : Post E.cl (.own none) Hs1 H1 Q (fun c dd H' => W c dd σ H') (R.ok (VL.D.lst (os.filterMap id))) := P1
      have S1 := S.grow g1
      refine ⟨fun i m H' => m = ds.length - i ∧ i ≤ ds.length ∧ ∃ Hs' acc, Grow Hs1 H1 Hs' H' ∧ H' D = some (.lst acc) ∧ Hs' D = none ∧ RepL E.cl Hs' ((os.take i).filterMap id) acc ∧ acc.length ≤ i,
        ⟨ds.length, by simp, Nat.zero_le _, Hs1, [], Grow.fresh g1.sub hD, upd_same, g1.sub.free hD, .nil, Nat.le_refl _⟩, ?_⟩
      rintro i m H' ⟨rfl, hi', Hs', acc, g2, eD, nD, rp, hacc⟩
      have sq : Same (bq E false H1) H' := g2.h
      by_cases hlt : i < ds.length
      · refine .inr ⟨J1.go Hs' H' g2.s g2.sub sq i hlt, fun H2 => ∃ Hs2 acc2, Grow Hs1 H1 Hs2 H2 ∧ H2 D = some (.lst acc2) ∧ Hs2 D = none ∧ RepL E.cl Hs2 ((os.take (i + 1)).filterMap id) acc2 ∧ acc2.length ≤ i + 1, ?_, ?_⟩
        · rintro H2 ⟨Hs2, acc2, z1, z2, z3, z4, z5⟩
          exact ⟨ds.length - (i + 1), by omega, rfl, hlt, Hs2, acc2, z1, z2, z3, z4, z5⟩
        · intro x H2 y s0 H0 C cl fp
          obtain ⟨d, hd⟩ : ∃ d, ds[i]? = some d := ⟨ds[i], by simp [hlt]⟩
          obtain ⟨Hs2, g3, rx⟩ := J1.yld Hs' H' g2.s g2.sub sq i d x H2 hd y
          obtain ⟨o, ho, hf⟩ := hturn i d hd
          unfold gTurn at hf
          cases q4 : t.un d with
          | stuck => rw [q4] at hf; cases hf
          | exc x => rw [q4] at hf; cases hf
          | ok xs =>
            rw [q4] at hf
            refine (hg s0 H0 C cl fp).run E.cl Hs2 H2 _ d x xs _ g3.sub rx q4 fun ys ry => ⟨by rw [wipe_setV hm, wipe_idem], fun s1 H01 C1 cl1 fp1 => ?_⟩
            have g23 := g2.trans g3
            obtain ⟨S2, hl2⟩ := StRel.wipe (S1.grow g23) vs hv
            have S3 : StRel E Hs2 H2 (setK (wipeK ks vs) t.is) (setD (wipeD r vs) t.is xs) (setV (wipe σ vs) t.is ys) :=
              StRel.puts S2 (fun j hj => by rw [hl2]; exact hv j (hm j hj)) (Tg.un_len q4) ry
            have eD2 : H2 D = some (.lst acc) := g3.h.at _ _ eD
            have nD2 : ∀ {Hsx Hx : Hp}, Grow Hs' H' Hsx Hx → Hsx D = none := fun {Hsx Hx} gx => by
              cases qq : Hsx D with
              | none => rfl
              | some u =>
                rcases gx.n D (by rw [qq]; simp) with z | z
                · exact absurd nD z
                · rw [eD] at z; cases z
            refine (ht s1 H01 C1 cl1 fp1).run _ _ _ _ (fun _ _ _ _ => False) _ takesF S3 ?_
            have hf' : (tt (setD (wipeD r vs) t.is xs) >>= fun b => if b then (ge (setD (wipeD r vs) t.is xs) >>= fun y => R.ok (some y)) else R.ok none) = R.ok o := hf
            cases q5 : tt (setD (wipeD r vs) t.is xs) with
            | stuck => rw [q5] at hf'; cases hf'
            | exc x => rw [q5] at hf'; cases hf'
            | ok b =>
              rw [q5] at hf'
              intro Hs3 H3 g4
              cases b with
              | false =>
                have e0 : (R.ok none : R (Option VL.D)) = R.ok o := hf'
                cases e0
                refine iteF ⟨Hs3, acc, g23.trans g4, g4.h.at _ _ eD2, nD2 (g3.trans g4), ?_, by omega⟩
                rw [filterMap_take ho]
                simpa using RepL.same (g3.trans g4).s _ _ rp
              | true =>
                refine iteT fun s2 H02 C2 cl2 fp2 => ?_
                refine (he s2 H02 C2 cl2 fp2).run _ _ _ _ (fun _ _ _ _ => False) _ takesF (S3.grow g4) ?_
                have hf2 : (ge (setD (wipeD r vs) t.is xs) >>= fun y => R.ok (some y)) = R.ok o := hf'
                cases q6 : ge (setD (wipeD r vs) t.is xs) with
                | stuck => rw [q6] at hf2; cases hf2
                | exc x => rw [q6] at hf2; cases hf2
                | ok y =>
                  rw [q6] at hf2
                  have e0 : (R.ok (some y) : R (Option VL.D)) = R.ok o := hf2
                  cases e0
                  intro v Hs4 H4 g5 k5
                  have g35 := (g3.trans g4).trans g5
                  have hD4 : H4 D = some (.lst acc) := g35.h.at _ _ eD
                  have hN4 := nD2 g35
                  have g25 := g2.trans g35
                  have hz : acc.length < sizeLine := by
                    rw [szL_eq]
                    have := J1.len
                    omega
                  refine ⟨acc, hD4, hz, Hs4, acc ++ [v], ⟨g25.s, ⟨fun b u e nt => ?_⟩, g25.n, ⟨fun b u e nt => ?_⟩, fun P z => tab_mut hD4 P (g25.t P z)⟩, upd_same, hN4, ?_, by simp; omega⟩
                  · rw [upd_ne (ne_of_none e hD)] at nt ⊢
                    exact g25.h.k _ _ e nt
                  · rw [upd_ne (ne_of_none e hN4)] at nt ⊢
                    exact g25.sub.k _ _ e nt
                  · rw [filterMap_take ho]
                    exact (RepL.same g35.s _ _ rp).app (.cons k5.rep .nil)
      · have e : i = ds.length := by omega
        subst e
        refine .inl ⟨J1.stop Hs' H' g2.s g2.sub sq, ?_⟩
        rw [← hlen, List.take_length] at rp
        refine P1' (.ref D) Hs' H' g2 ⟨[D], .ownL ⟨hD, fun _ z => nomatch z⟩ eD rp, by simp, fun a ha => ?_⟩
        have q : a = D := by simpa using ha
        subst q
        exact ⟨nD, hD⟩
theorem se_comp {X : Cx} {E : En} {ks : List Kd} {elt tg iter : Expr} {ifs : List Expr} {scope : Scope} {pos : Pos} {t : Tg} {gi : Sl → R (List D)} {tt : Sl → R Bool} {ge : Sl → R D}
    (own : List (Str × Nat)) (hc : X.calm = true) (hN : X.N.Nodup) (hi : SI X E ks false tg iter gi) (ok : BlkOk X.N X.env.scope scope own) (hv : ∀ i ∈ own.map (·.2), i < ks.length) (hm : ∀ i ∈ t.is, i ∈ own.map (·.2))
    (hg : ∀ (s : Shared) (H : Hp) (C : Addr) (cl : List (Str × Addr)) (fp : List Addr), SG (X.blk s H scope (compEnvC scope cl C X.env) fp) tg t)
    (ht : ∀ (s : Shared) (H : Hp) (C : Addr) (cl : List (Str × Addr)) (fp : List Addr), SP1 (X.blk s H scope (compEnvC scope cl C X.env) fp) E (setK (wipeK ks (own.map (·.2))) t.is) ifs tt)
    (he : ∀ (s : Shared) (H : Hp) (C : Addr) (cl : List (Str × Addr)) (fp : List Addr), SE (X.blk s H scope (compEnvC scope cl C X.env) fp) E (setK (wipeK ks (own.map (·.2))) t.is) .val elt ge)
    (hs : ∀ x, foldedSetIterable iter X.env x = pure x := by intro _; rfl) : SE X E ks (.own none) (.ListComp elt [⟨tg, iter, ifs, 0⟩] scope pos) (gComp gi t (own.map (·.2)) tt ge) := by
  refine ⟨fun Hs H r σ W Q tk S P => ?_⟩
  exact we_of (pe_lc hc hN pi_wi ok pg_rd pts_rd pe_rd hs) (comp_read hi hv hm hg ht he tk S P)
end VL
end

noncomputable section
namespace VL
open PySem PySem.Spec PyProof.Rows L2

section
variable {cl : Cl}
mutual
theorem ORep.anyB {N : Addr → Prop} {B B' Hs H : Hp} : ∀ (k : Kd) (d : D) (v : V) (A : List Addr), k.fine = true → ORep cl N B Hs H k d v A → ORep cl N B' Hs H k d v A
  | .val, _, _, _, _, h => by
    cases h with
    | val h1 => exact .val h1
  | .bor, _, _, _, z, _ => by cases z
  | .own n, _, _, _, _, h => by
    cases h with
    | ownL h0 h1 h2 => exact .ownL h0 h1 h2
    | ownK h0 h1 h2 => exact .ownK h0 h1 h2
    | ownV h0 h1 => exact .ownV h0 h1
  | .obj n ks, _, _, _, z, h => by
    cases h with
    | obj h0 h1 h2 h3 => exact .obj h0 h1 h2 (OFs.anyB ks _ _ _ (by simpa [Kd.fine] using z) h3)
  | .lls n k, _, _, _, z, h => by
    cases h with
    | lls h0 h1 h2 => exact .lls h0 h1 (OLs.imp (fun _ => True) (fun _ _ _ => trivial) (fun _ _ _ => trivial) (fun d v A _ o => ORep.anyB k d v A z o) trivial h2)
    | llT h0 h1 h2 => exact .llT h0 h1 (OLs.imp (fun _ => True) (fun _ _ _ => trivial) (fun _ _ _ => trivial) (fun d v A _ o => ORep.anyB k d v A z o) trivial h2)
    | llV h0 h1 => exact .llV h0 h1
theorem OFs.anyB {N : Addr → Prop} {B B' Hs H : Hp} : ∀ (ks : List (Str × Kd)) (ds : List (Str × D)) (xs : List (Str × V)) (A : List Addr), Kd.fine.fines ks = true → OFs cl N B Hs H ks ds xs A → OFs cl N B' Hs H ks ds xs A
  | [], _, _, _, _, h => by cases h; exact .nil
  | (f, k) :: ks, _, _, _, z, h => by
    have z' : k.fine = true ∧ Kd.fine.fines ks = true := by simpa [Kd.fine.fines] using z
    cases h with
    | cons h1 h2 => exact .cons (ORep.anyB k _ _ _ z'.1 h1) (OFs.anyB ks _ _ _ z'.2 h2)
end
end

/-! ### the state behind a store -/
section
variable {E : En} {Hs H Hs' H' : Hp} {ks : List Kd} {r : Sl} {σ : L2.St}
theorem RK.new (S : StRel E Hs H ks r σ) (g : Grow Hs H Hs' H') {k : Kd} {d : D} {v : V} (f : k.fine = true) (rk : RK E.cl k H Hs' H' d v) :
    ∃ A, ORep E.cl E.N E.b Hs' H' k d v A ∧ A.Nodup ∧ (∀ a ∈ A, Hs' a = none ∧ E.b a = none ∧ H a = none) := by
  obtain ⟨As, S⟩ := S
  obtain ⟨A, o, nd, z⟩ := rk
  exact ⟨A, ORep.anyB k _ _ _ f (ORep.mono (Same.refl _) (Same.refl _) (fun a q => S.dom a q) k _ _ _ (fun _ _ => rfl) o), nd, fun a ha => ⟨(z a ha).1, S.eb.free (z a ha).2, (z a ha).2⟩⟩
theorem nodup_mid {α : Type} {pre A post A' : List α} (h : (pre ++ (A ++ post)).Nodup) (hA : A'.Nodup) (d : ∀ a ∈ A', a ∉ pre ++ post) : (pre ++ (A' ++ post)).Nodup := by
  have h1 : (pre ++ post).Nodup := h.sublist (List.Sublist.append (List.Sublist.refl _) (List.sublist_append_right _ _))
  have p : (pre ++ (A' ++ post)).Perm (A' ++ (pre ++ post)) := by
    rw [← List.append_assoc, ← List.append_assoc]
    exact List.Perm.append_right _ List.perm_append_comm
  exact p.nodup_iff.mpr (List.nodup_append.mpr ⟨hA, h1, fun a ha b hb z => d a ha (z ▸ hb)⟩)
theorem StRel.putK {i : Nat} {k0 k : Kd} {d : D} {v : V} (S : StRel E Hs H ks r σ) (g : Grow Hs H Hs' H') (hk : ks[i]? = some k0) (f : k.fine = true) (rk : RK E.cl k H Hs' H' d v) : StRel E Hs' H' (ks.set i k) (r.set i (some d)) (σ.set i (some v)) := by
  obtain ⟨A', o, nd, z⟩ := RK.new S g f rk
  obtain ⟨As, S0⟩ := S
  have hh := S0.sl.here
  have S1 := S0.grow g
  obtain ⟨pre, A, post, e, _, q, _, _⟩ := S1.sl.at_ i hk
  have d1 : ∀ a ∈ A', a ∉ pre ++ post := fun a ha hm => by
    have : a ∈ As := by
      rw [e]
      rcases List.mem_append.mp hm with w | w
      · exact List.mem_append_left _ w
      · exact List.mem_append_right _ (List.mem_append_right _ w)
    obtain ⟨u, hu, _⟩ := hh a this
    rw [(z a ha).2.2] at hu
    cases hu
  refine ⟨_, q k d v A' o, nodup_mid (e ▸ S1.nd) nd d1, fun a ha => ?_, S1.es, S1.sub, S1.eb, S1.new, S1.dom, S1.tb⟩
  rcases List.mem_append.mp ha with w | w
  · exact S1.dis a (by rw [e]; exact List.mem_append_left _ w)
  · rcases List.mem_append.mp w with w | w
    · exact ⟨(z a w).1, (z a w).2.1⟩
    · exact S1.dis a (by rw [e]; exact List.mem_append_right _ (List.mem_append_right _ w))
theorem StRel.push {k : Kd} {d : D} {v : V} (S : StRel E Hs H ks r σ) (g : Grow Hs H Hs' H') (f : k.fine = true) (rk : RK E.cl k H Hs' H' d v) : StRel E Hs' H' (k :: ks) (some d :: r) (some v :: σ) := by
  obtain ⟨A', o, nd, z⟩ := RK.new S g f rk
  obtain ⟨As, S0⟩ := S
  have hh := S0.sl.here
  have S1 := S0.grow g
  have d1 : ∀ a ∈ A', a ∉ As := fun a ha hm => by
    obtain ⟨u, hu, _⟩ := hh a hm
    rw [(z a ha).2.2] at hu
    cases hu
  refine ⟨_, .cons o S1.sl, List.nodup_append.mpr ⟨nd, S1.nd, fun a ha b hb z => d1 a ha (z ▸ hb)⟩, fun a ha => ?_, S1.es, S1.sub, S1.eb, S1.new, S1.dom, S1.tb⟩
  rcases List.mem_append.mp ha with w | w
  · exact ⟨(z a w).1, (z a w).2.1⟩
  · exact S1.dis a w
/-- the value of a slot leaves it -/
theorem StRel.take {i : Nat} {k : Kd} {d : D} (S : StRel E Hs H ks r σ) (hk : ks[i]? = some k) (hd : r[i]? = some (some d)) : ∃ v, σ[i]? = some (some v) ∧ StRel E Hs H (k :: ks) (some d :: r.set i none) (some v :: σ) := by
  obtain ⟨As, S⟩ := S
  obtain ⟨pre, A, post, e, q1, _, q2, _⟩ := S.sl.at_ i hk
  obtain ⟨v, ev, o⟩ := q1 d hd
  refine ⟨v, ev, _, .cons o (by
    have z := q2 k (some v)
    have e1 : ks.set i k = ks := by
      obtain ⟨h, e2⟩ := List.getElem?_eq_some_iff.mp hk
      rw [← e2, List.set_getElem_self]
    have e3 : σ.set i (some v) = σ := by
      obtain ⟨h, e2⟩ := List.getElem?_eq_some_iff.mp ev
      rw [← e2, List.set_getElem_self]
    rw [e1, e3] at z
    exact z), ?_, fun a ha => S.dis a ?_, S.es, S.sub, S.eb, S.new, S.dom, S.tb⟩
  · have p : (A ++ (pre ++ post)).Perm As := by
      rw [e, ← List.append_assoc, ← List.append_assoc]
      exact List.Perm.append_right _ List.perm_append_comm
    exact p.nodup_iff.mpr S.nd
  · rw [e]
    rcases List.mem_append.mp ha with w | w
    · exact List.mem_append_right _ (List.mem_append_left _ w)
    · rcases List.mem_append.mp w with w | w
      · exact List.mem_append_left _ w
      · exact List.mem_append_right _ (List.mem_append_right _ w)
/-- an owned list is changed where it lies -/
theorem StRel.mutL {i : Nat} {n : Option Addr} {ds : List D} (S : StRel E Hs H ks r σ) (hk : ks[i]? = some (.own n)) (hd : r[i]? = some (some (.lst ds))) :
    ∃ a xs, σ[i]? = some (some (.ref a)) ∧ H a = some (.lst xs) ∧ RepL E.cl Hs ds xs ∧ ∀ ds' xs', RepL E.cl Hs ds' xs' → StRel E Hs (upd H a (.lst xs')) ks (r.set i (some (.lst ds'))) σ := by
  obtain ⟨As, S⟩ := S
  obtain ⟨pre, A, post, e, q1, _, _, q3⟩ := S.sl.at_ i hk
  obtain ⟨v, ev, o⟩ := q1 _ hd
  cases o with
  | ownV h0 h1 => cases h0
  | ownL h0 h1 h2 =>
    rename_i a xs
    refine ⟨a, xs, ev, h1, h2, fun ds' xs' rp => ?_⟩
    have ha : a ∈ As := by rw [e]; exact List.mem_append_right _ (List.mem_append_left _ (by simp))
    have nd := S.nd
    rw [e] at nd
    have hn : ∀ b ∈ pre ++ post, b ≠ a := fun b hb z => by
      subst z
      rcases List.mem_append.mp hb with w | w
      · exact (List.nodup_append.mp nd).2.2 _ w _ (List.mem_append_left _ (by simp)) rfl
      · exact (List.nodup_append.mp (List.nodup_append.mp nd).2.1).2.2 _ (by simp) _ w rfl
    have z := q3 Hs (upd H a (.lst xs')) (Same.refl _) (fun b hb => upd_ne (hn b hb)) (.own n) (.lst ds') (.ref a) [a] (.ownL h0 upd_same rp)
    have e1 : ks.set i (.own n) = ks := by
      obtain ⟨h, e2⟩ := List.getElem?_eq_some_iff.mp hk
      rw [← e2, List.set_getElem_self]
    have e3 : σ.set i (some (.ref a)) = σ := by
      obtain ⟨h, e2⟩ := List.getElem?_eq_some_iff.mp ev
      rw [← e2, List.set_getElem_self]
    rw [e1, e3] at z
    have dz := S.dis a ha
    refine ⟨_, z, nd, fun b hb => S.dis b (by rw [e]; exact hb), S.es, ⟨fun b u q nt => ?_⟩, ⟨fun b u q nt => ?_⟩, S.new, fun b q => ?_, fun P z => tab_mut h1 P (S.tb P z)⟩
    · have : b ≠ a := fun w => by rw [w, dz.1] at q; cases q
      rw [upd_ne this] at nt ⊢
      exact S.sub.k _ _ q nt
    · have : b ≠ a := fun w => by rw [w, dz.2] at q; cases q
      rw [upd_ne this] at nt ⊢
      exact S.eb.k _ _ q nt
    · have : b ≠ a := fun w => by rw [w, upd_same] at q; cases q
      rw [upd_ne this] at q
      exact S.dom _ q
/-- an owned value is frozen where it lies -/
theorem StRel.freeze {i : Nat} {k : Kd} (S : StRel E Hs H ks r σ) (hk : ks[i]? = some k) (hf : k = .own none) : ∃ Hs2, StRel E Hs2 H (ks.set i .val) r σ := by
  subst hf
  obtain ⟨As, S⟩ := S
  cases hr : r[i]? with
  | none =>
    have l := S.sl.len
    have hi : i < ks.length := (List.getElem?_eq_some_iff.mp hk).1
    have : r.length ≤ i := List.getElem?_eq_none_iff.mp hr
    omega
  | some o =>
    obtain ⟨pre, A, post, e, q1, q2, q4, q3⟩ := S.sl.at_ i hk
    have e5 : r.set i o = r := by
      obtain ⟨h, e2⟩ := List.getElem?_eq_some_iff.mp hr
      rw [← e2, List.set_getElem_self]
    cases o with
    | none =>
      have l := S.sl.len
      have hi : i < σ.length := by rw [l.2]; exact (List.getElem?_eq_some_iff.mp hk).1
      have z := q4 .val σ[i]
      rw [e5, List.set_getElem_self] at z
      have sub : (pre ++ post).Sublist As := by
        rw [e]
        exact List.Sublist.append (List.Sublist.refl _) (List.sublist_append_right _ _)
      exact ⟨Hs, _, z, S.nd.sublist sub, fun a ha => S.dis a (sub.subset ha), S.es, S.sub, S.eb, S.new, S.dom, S.tb⟩
    | some d =>
      obtain ⟨v, ev, o⟩ := q1 d hr
      have e3 : σ.set i (some v) = σ := by
        obtain ⟨h, e2⟩ := List.getElem?_eq_some_iff.mp ev
        rw [← e2, List.set_getElem_self]
      have nd := S.nd
      rw [e] at nd
      have nA : ∀ a ∈ A, E.h a = none := by
        cases o with
        | ownL h0 h1 h2 => intro a ha; simp at ha; subst ha; exact h0.1
        | ownK h0 h1 h2 => intro a ha; simp at ha; subst ha; exact h0.1
        | ownV h0 h1 => intro a ha; cases ha
      have inA : ∀ a ∈ A, a ∈ As := fun a ha => by rw [e]; exact List.mem_append_right _ (List.mem_append_left _ ha)
      have pS : Same Hs (plus Hs H A) := plus_same fun a ha => (S.dis a (inA a ha)).1
      have rp : Rep E.cl (plus Hs H A) d v := ORep.freeze pS _ _ _ _ rfl (fun a ha => by unfold plus; rw [if_pos ha]) o
      have z := q3 (plus Hs H A) H pS (fun _ _ => rfl) .val d v [] (.val rp)
      rw [e5, e3] at z
      have sub : (pre ++ ([] ++ post)).Sublist As := by
        rw [e]
        exact List.Sublist.append (List.Sublist.refl _) (by rw [List.nil_append]; exact List.sublist_append_right _ _)
      refine ⟨plus Hs H A, _, z, S.nd.sublist sub, fun a ha => ⟨?_, (S.dis a (sub.subset ha)).2⟩, S.es.trans pS, plus_sub S.sub, S.eb, fun a q => ?_, S.dom, S.tb⟩
      · have hn : a ∉ A := fun w => by
          rcases List.mem_append.mp ha with u | u
          · exact (List.nodup_append.mp nd).2.2 _ u _ (List.mem_append_left _ w) rfl
          · exact (List.nodup_append.mp (List.nodup_append.mp nd).2.1).2.2 _ w _ (by simpa using u) rfl
        unfold plus
        rw [if_neg hn]
        exact (S.dis a (sub.subset ha)).1
      · unfold plus at q
        split at q
        · rename_i w
          exact .inr (nA a w)
        · exact S.new a q
/-- another bound of what is stable -/
def En.at_ (E : En) (s : Hp) : En := { E with s := s }
theorem Slots.env {E E' : En} (h1 : E'.cl = E.cl) (h2 : E'.b = E.b) (h3 : E'.h = E.h) : ∀ {ks : List Kd} {r : Sl} {σ : L2.St} {As : List Addr}, Slots E Hs H ks r σ As → Slots E' Hs H ks r σ As
  | _, _, _, _, .nil => .nil
  | _, _, _, _, .skip h => .skip (Slots.env h1 h2 h3 h)
  | _, _, _, _, .cons o h => .cons (by unfold En.N at *; rw [h1, h2, h3]; exact o) (Slots.env h1 h2 h3 h)
theorem StRel.down (S : StRel E Hs H ks r σ) : StRel (E.at_ Hs) Hs H ks r σ := by
  obtain ⟨As, S⟩ := S
  exact ⟨As, Slots.env (E := E) (E' := E.at_ Hs) rfl rfl rfl S.sl, S.nd, S.dis, Same.refl _, S.sub, S.eb, fun a z => .inl z, S.dom, S.tb⟩
theorem StRel.up {Hs1 : Hp} (es : Same E.s Hs1) (nw : ∀ a, Hs1 a ≠ none → E.s a ≠ none ∨ E.h a = none) (S : StRel (E.at_ Hs1) Hs H ks r σ) : StRel E Hs H ks r σ := by
  obtain ⟨As, S⟩ := S
  refine ⟨As, Slots.env (E := E.at_ Hs1) (E' := E) rfl rfl rfl S.sl, S.nd, S.dis, es.trans S.es, S.sub, S.eb, fun a z => ?_, S.dom, S.tb⟩
  rcases S.new a z with q | q
  · exact nw a q
  · exact .inr q
theorem StRel.facts (S : StRel E Hs H ks r σ) : Same E.s Hs ∧ Same E.b H ∧ (∀ a, Hs a ≠ none → E.s a ≠ none ∨ E.h a = none) ∧ ∀ P, LamX.TabS E.h P lamQ → LamX.TabS H P lamQ := let ⟨_, s⟩ := S; ⟨s.es, s.eb, s.new, s.tb⟩
end

/-! ### a statement's judgment -/
def PostS (E : En) (ks : List Kd) (kr : Kd) (fin : List Kd → Prop) (W : WX) (Dn : Ends) : O → Prop
  | .stuck => False
  | .nx r => ∀ Hs H σ, StRel E Hs H ks r σ → Dn.nx σ H
  | .rt d r => ∀ Hs H σ v ks2, fin ks2 → StRel E Hs H (kr :: ks2) (some d :: r) (some v :: σ) → Dn.rt v H
  | .exc x r => ∀ Hs H σ c dd ks2, fin ks2 → StRel E Hs H ks2 r σ → XRep E.cl Hs H x c dd → W c dd σ H
/-- .. kr what a return hands out, fin what is asked of the slots at the def's end -/
structure SS (X : Cx) (E : En) (kr : Kd) (fin : List Kd → Prop) (ks : List Kd) (st : Stmt) (m : Sl → O) (ks' : List Kd) : Prop where
  run : ∀ (Hs H : Hp) (r : Sl) (σ : L2.St) (W : WX) (Dn : Ends), Takes X W → StRel E Hs H ks r σ → PostS E ks' kr fin W Dn (m r) → WSx X st Dn σ H
structure SB (X : Cx) (E : En) (kr : Kd) (fin : List Kd → Prop) (ks : List Kd) (st : List Stmt) (m : Sl → O) (ks' : List Kd) : Prop where
  run : ∀ (Hs H : Hp) (r : Sl) (σ : L2.St) (W : WX) (Dn : Ends), Takes X W → StRel E Hs H ks r σ → PostS E ks' kr fin W Dn (m r) → WSs X st Dn σ H
@[simp] def mNil : Sl → O := .nx
@[simp] def mSeq (m1 m2 : Sl → O) : Sl → O := fun r => match m1 r with
  | .nx r' => m2 r'
  | o => o
/-- behind an expression -/
@[simp] def onR {α : Type} (x : R α) (r : Sl) (k : α → O) : O := match x with
  | .ok a => k a
  | .exc x => .exc x r
  | .stuck => .stuck
section
variable {X : Cx} {E : En} {kr : Kd} {fin : List Kd → Prop} {ks ks' ks1 ks2 : List Kd} {st : Stmt} {sts : List Stmt} {m m1 m2 : Sl → O} {e : Expr} {g : Sl → R D} {pos : Pos}
theorem sb_nil : SB X E kr fin ks [] mNil ks := ⟨fun Hs H r σ W Dn tk S P => wss_of pss_nil (P Hs H σ S)⟩
/-- the block's end: slot i is frozen -/
theorem sb_nilF {i : Nat} (h : SB X E kr fin (ks.set i .val) [] mNil ks') (hk : ks[i]? = some (.own none) := by rfl) : SB X E kr fin ks [] mNil ks' := by
  refine ⟨fun Hs H r σ W Dn tk S P => ?_⟩
  obtain ⟨Hs2, S2⟩ := S.freeze hk rfl
  exact h.run _ _ _ _ _ _ tk S2 P
/-- ahead of a block slot i is frozen -/
theorem sb_frz {i : Nat} (h : SB X E kr fin (ks.set i .val) sts m ks') (hk : ks[i]? = some (.own none) := by rfl) : SB X E kr fin ks sts m ks' := by
  refine ⟨fun Hs H r σ W Dn tk S P => ?_⟩
  obtain ⟨Hs2, S2⟩ := S.freeze hk rfl
  exact h.run _ _ _ _ _ _ tk S2 P
theorem sb_cons (h1 : SS X E kr fin ks st m1 ks1) (h2 : SB X E kr fin ks1 sts m2 ks2) : SB X E kr fin ks (st :: sts) (mSeq m1 m2) ks2 := by
  refine ⟨fun Hs H r σ W Dn tk S P => ?_⟩
  refine wss_of (pss_cons ps_ws pss_ws) ?_
  refine h1.run _ _ _ _ _ _ tk S ?_
  unfold mSeq at P
  cases q : m1 r with
  | stuck => rw [q] at P; exact P
  | nx r' =>
    rw [q] at P
    exact fun Hs' H' σ' S' => h2.run _ _ _ _ _ _ tk S' P
  | rt d r' => rw [q] at P; exact P
  | exc x r' => rw [q] at P; exact P
theorem sb_one (h1 : SS X E kr fin ks st m ks1) : SB X E kr fin ks [st] m ks1 := ⟨fun Hs H r σ W Dn tk S P => wss_of (pss_one ps_ws) (h1.run _ _ _ _ _ _ tk S P)⟩
theorem ss_pass : SS X E kr fin ks (.Pass pos) mNil ks := ⟨fun Hs H r σ W Dn tk S P => ws_of ps_pass (P Hs H σ S)⟩
/-- what an expression asks within a statement -/
theorem Post.ofS {k : Kd} {Hs H : Hp} {r : Sl} {σ : L2.St} {W : WX} {Dn : Ends} {x : R D} {kk : D → O} {Q1 : VK} (hf : fin ks) (S : StRel E Hs H ks r σ) (P : PostS E ks' kr fin W Dn (onR x r kk))
    (h : ∀ d v Hs' H', x = .ok d → Grow Hs H Hs' H' → RK E.cl k H Hs' H' d v → PostS E ks' kr fin W Dn (kk d) → Q1 v H') : Post E.cl k Hs H Q1 (fun c dd H' => W c dd σ H') x := by
  cases x with
  | stuck => exact P
  | exc x => exact fun c dd Hs' H' g z => P Hs' H' σ c dd ks hf (S.grow g) z
  | ok d => exact fun v Hs' H' g rk => h d v Hs' H' rfl g rk P
@[simp] def mSet (i : Nat) (g : Sl → R D) : Sl → O := fun r => onR (g r) r fun d => .nx (r.set i (some d))
/-- x = e -/
theorem ss_set {i : Nat} {k k0 : Kd} {x : Str} {pos' : Pos} (hN : X.N.Nodup) (he : SE X E ks k e g) (hf : fin ks := by trivial) (hk : ks[i]? = some k0 := by rfl) (fk : k.fine = true := by rfl) (hi : X.N[i]? = some x := by rfl) (hx : Loc X.env.scope x := by first | exact Or.inl rfl | exact Or.inr rfl)
    (hs : swapsWith e (some (.Name x pos')) pos.line X.env = pure false := by rfl) (hfn : X.fn x = true ∨ X.env.scope.names.lookup x = some .local := by first | exact .inl rfl | exact .inr rfl | assumption) :
    SS X E kr fin ks (.Assign [.Name x pos'] e pos) (mSet i g) (ks.set i k) := by
  refine ⟨fun Hs H r σ W Dn tk S P => ?_⟩
  refine ws_of (ps_set hN hi hx pe_we hs hfn) ?_
  exact he.run _ _ _ _ _ _ tk S (Post.ofS hf S P fun d v Hs' H' e1 g1 k1 P1 => P1 Hs' H' _ (S.putK g1 hk fk k1))
/-- x = [..] on one line, x a local -/
theorem ss_setLc {i : Nat} {k0 : Kd} {y : Str} {py : Pos} {elt tg iter : Expr} {ifs : List Expr} {scope : Scope} {spos : Pos} {t : Tg} {gi : Sl → R (List D)} {tt : Sl → R Bool} {ge : Sl → R D}
    (own : List (Str × Nat)) (hc : X.calm = true) (hN : X.N.Nodup) (hi : SI X E ks false tg iter gi) (ok : BlkOk X.N X.env.scope scope own) (hv : ∀ i ∈ own.map (·.2), i < ks.length) (hm : ∀ i ∈ t.is, i ∈ own.map (·.2))
    (hg : ∀ (s : Shared) (H : Hp) (C : Addr) (cl : List (Str × Addr)) (fp : List Addr), SG (X.blk s H scope (compEnvC scope cl C X.env) fp) tg t)
    (ht : ∀ (s : Shared) (H : Hp) (C : Addr) (cl : List (Str × Addr)) (fp : List Addr), SP1 (X.blk s H scope (compEnvC scope cl C X.env) fp) E (setK (wipeK ks (own.map (·.2))) t.is) ifs tt)
    (he : ∀ (s : Shared) (H : Hp) (C : Addr) (cl : List (Str × Addr)) (fp : List Addr), SE (X.blk s H scope (compEnvC scope cl C X.env) fp) E (setK (wipeK ks (own.map (·.2))) t.is) .val elt ge)
    (hsw : swapsWith (.ListComp elt [⟨tg, iter, ifs, 0⟩] scope pos) (some (.Name y py)) spos.line X.env = pure true) (hf : fin ks := by trivial) (hk : ks[i]? = some k0 := by rfl) (hy : X.N[i]? = some y := by rfl) (hyl : X.env.scope.names.lookup y = some .local := by rfl)
    (hs : ∀ x, foldedSetIterable iter X.env x = pure x := by intro _; rfl) :
    SS X E kr fin ks (.Assign [.Name y py] (.ListComp elt [⟨tg, iter, ifs, 0⟩] scope pos) spos) (mSet i (gComp gi t (own.map (·.2)) tt ge)) (ks.set i (.own none)) := by
  refine ⟨fun Hs H r σ W Dn tk S P => ?_⟩
  refine ws_of (ps_setLc (i := i) hc hN hy hyl hsw pi_wi ok pg_rd pts_rd pe_rd hs) ?_
  exact comp_read hi hv hm hg ht he tk S (Post.ofS (k := .own none) hf S P fun d v Hs' H' e1 g1 k1 P1 => P1 Hs' H' _ (S.putK g1 hk rfl k1))
@[simp] def mRet (g : Sl → R D) : Sl → O := fun r => onR (g r) r fun d => .rt d r
theorem ss_ret (he : SE X E ks kr e g) (hf : fin ks := by trivial) (fk : kr.fine = true := by rfl) : SS X E kr fin ks (.Return (some e) pos) (mRet g) ks' := by
  refine ⟨fun Hs H r σ W Dn tk S P => ?_⟩
  refine ws_of (ps_ret pe_we) ?_
  exact he.run _ _ _ _ _ _ tk S (Post.ofS hf S P fun d v Hs' H' e1 g1 k1 P1 => P1 Hs' H' σ v ks hf (S.push g1 fk k1))
@[simp] def mRetV (i : Nat) : Sl → O := fun r => match r[i]? with
  | some (some d) => .rt d (r.set i none)
  | _ => .stuck
theorem ss_retV {i : Nat} {x : Str} {pos' : Pos} (hf : fin ks := by trivial) (hk : ks[i]? = some kr := by rfl) (hN : X.N[i]? = some x := by rfl) (hv : Vis X.env.scope x := by first | exact Or.inl rfl | exact Or.inr (Or.inl rfl) | exact Or.inr (Or.inr rfl))
    (hq : NmOk x) : SS X E kr fin ks (.Return (some (.Name x pos')) pos) (mRetV i) ks' := by
  refine ⟨fun Hs H r σ W Dn tk S P => ?_⟩
  refine ws_of (ps_ret (pe_var hN hv hq.1 hq.2)) ?_
  unfold mRetV at P
  split at P
  · rename_i d q
    obtain ⟨v, ev, S2⟩ := S.take hk q
    exact ⟨v, ev, P Hs H σ v ks hf S2⟩
  · exact P.elim
theorem ss_retN (hf : fin ks := by trivial) (hk : kr = .val := by rfl) : SS X E kr fin ks (.Return none pos) (fun r => .rt .non r) ks' := by
  subst hk
  refine ⟨fun Hs H r σ W Dn tk S P => ?_⟩
  exact ws_of ps_retN (P Hs H σ .non ks hf (S.push (k := .val) (Grow.refl S.sub) rfl (RK.val .non)))
@[simp] def mExpr (g : Sl → R D) : Sl → O := fun r => onR (g r) r fun _ => .nx r
theorem ss_expr (he : SE X E ks .val e g) (hf : fin ks := by trivial) (hs : swapsWith e none pos.line X.env = pure false := by rfl) : SS X E kr fin ks (.Expr e pos) (mExpr g) ks := by
  refine ⟨fun Hs H r σ W Dn tk S P => ?_⟩
  refine ws_of (ps_expr pe_we hs) ?_
  exact he.run _ _ _ _ _ _ tk S (Post.ofS hf S P fun d v Hs' H' e1 g1 k1 P1 => P1 Hs' H' σ (S.grow g1))
@[simp] def mIf (tc : Sl → R Bool) (m1 m2 : Sl → O) : Sl → O := fun r => onR (tc r) r fun b => if b then m1 r else m2 r
theorem PostT.ofS {Hs H : Hp} {r : Sl} {σ : L2.St} {W : WX} {Dn : Ends} {x : R Bool} {kk : Bool → O} {Q1 : Bool → Hp → Prop} (hf : fin ks) (S : StRel E Hs H ks r σ) (P : PostS E ks' kr fin W Dn (onR x r kk))
    (h : ∀ b Hs' H', x = .ok b → Grow Hs H Hs' H' → PostS E ks' kr fin W Dn (kk b) → Q1 b H') : PostT E.cl Hs H Q1 (fun c dd H' => W c dd σ H') x := by
  cases x with
  | stuck => exact P
  | exc x => exact fun c dd Hs' H' g z => P Hs' H' σ c dd ks hf (S.grow g) z
  | ok d => exact fun Hs' H' g => h d Hs' H' rfl g P
theorem ss_if {c : Expr} {a b : List Stmt} {tc : Sl → R Bool} (hc : ST X E ks c tc) (ha : SB X E kr fin ks a m1 ks') (hb : SB X E kr fin ks b m2 ks') (hf : fin ks := by trivial) : SS X E kr fin ks (.If c a b pos) (mIf tc m1 m2) ks' := by
  refine ⟨fun Hs H r σ W Dn tk S P => ?_⟩
  refine ws_of (ps_if pt_wt pss_ws pss_ws) ?_
  refine hc.run _ _ _ _ _ _ tk S (PostT.ofS hf S P fun x Hs' H' e1 g1 P1 => ?_)
  cases x with
  | true => exact iteT (ha.run _ _ _ _ _ _ tk (S.grow g1) P1)
  | false => exact iteF (hb.run _ _ _ _ _ _ tk (S.grow g1) P1)
/-! loops -/
def forL (t : Tg) (mb : Sl → O) : List D → Sl → O
  | [], r => .nx r
  | d :: ds, r => match t.un d with
    | .ok xs => (match mb (setD r t.is xs) with
      | .nx r' => forL t mb ds r'
      | o => o)
    | _ => .stuck
@[simp] def mFor (gi : Sl → R (List D)) (t : Tg) (mb : Sl → O) : Sl → O := fun r => onR (gi r) r fun ds => forL t mb ds r
theorem PostI.ofS {md : Bool} {Hs H : Hp} {r : Sl} {σ : L2.St} {W : WX} {Dn : Ends} {x : R (List D)} {kk : List D → O} {Q1 : It → Hp → Prop} (hf : fin ks) (S : StRel E Hs H ks r σ) (P : PostS E ks' kr fin W Dn (onR x r kk))
    (h : ∀ ds J Hs' H', x = .ok ds → Grow Hs H Hs' H' → ItOk E.cl J ds Hs' (bq E md H') → PostS E ks' kr fin W Dn (kk ds) → Q1 J H') : PostI E md Hs H Q1 (fun c dd H' => W c dd σ H') x := by
  cases x with
  | stuck => exact P
  | exc x => exact fun c dd Hs' H' g z => P Hs' H' σ c dd ks hf (S.grow g) z
  | ok d => exact fun J Hs' H' g i => h d J Hs' H' rfl g i P
theorem ss_for {tg iter : Expr} {body : List Stmt} {gi : Sl → R (List D)} {t : Tg} {mb : Sl → O} (hp : PassesOwn (model X.prog X.w) X.A X.env X.xe) (hc : X.calm = true) (hi : SI X E ks true tg iter gi) (hg : SG X tg t)
    (hb : ∀ s, SB X (E.at_ s) kr fin ks body mb ks) (hl : ∀ i ∈ t.is, i < ks.length) (hk : setK ks t.is = ks := by rfl) (hf : fin ks := by trivial)
    (hs : ∀ x, foldedSetIterable iter X.env x = pure x := by intro _; rfl) : SS X E kr fin ks (.For tg iter body [] pos) (mFor gi t mb) ks := by
  refine ⟨fun Hs H r σ W Dn tk S P => ?_⟩
  refine ws_of (ps_for hp hc pi_wi pg_wg pss_ws hs) ?_
  refine hi.run _ _ _ _ _ _ tk S (PostI.ofS hf S P fun ds J Hs1 H1 e1 g1 J1 P1 => ?_)
  have S1 := S.grow g1
  have F1 := S1.facts
  have D1 := S1.down
  refine ⟨fun i m σ' H' => m = ds.length - i ∧ i ≤ ds.length ∧ ∃ Hs' r', StRel (E.at_ Hs1) Hs' H' ks r' σ' ∧ PostS E ks kr fin W Dn (forL t mb (ds.drop i) r'),
    ⟨ds.length, by simp, Nat.zero_le _, Hs1, r, D1, P1⟩, ?_⟩
  rintro i m σ' H' ⟨rfl, hi', Hs', r', S', P'⟩
  have fs := S'.facts
  by_cases hlt : i < ds.length
  · refine .inr ⟨J1.go Hs' H' fs.1 S'.sub fs.2.1 i hlt, fun σ2 H2 => ∃ Hs2 r2, StRel (E.at_ Hs1) Hs2 H2 ks r2 σ2 ∧ PostS E ks kr fin W Dn (forL t mb (ds.drop (i + 1)) r2), ?_, ?_⟩
    · rintro σ2 H2 ⟨Hs2, r2, z1, z2⟩
      exact ⟨ds.length - (i + 1), by omega, rfl, hlt, Hs2, r2, z1, z2⟩
    · intro x H2 y
      have hd : ds[i]? = some ds[i] := by simp [hlt]
      obtain ⟨Hs2, g3, rx⟩ := J1.yld Hs' H' fs.1 S'.sub fs.2.1 i _ x H2 hd y
      rw [List.drop_eq_getElem_cons hlt] at P'
      dsimp only [forL] at P'
      cases q : t.un ds[i] with
      | stuck => rw [q] at P'; exact P'.elim
      | exc z => rw [q] at P'; exact P'.elim
      | ok xs =>
        rw [q] at P'
        dsimp only at P'
        refine hg.run E.cl Hs2 H2 _ _ x xs _ g3.sub rx q fun ys ry => ?_
        have S3 : StRel (E.at_ Hs1) Hs2 H2 (setK ks t.is) (setD r' t.is xs) (setV σ' t.is ys) := StRel.puts (S'.grow g3) hl (Tg.un_len q) ry
        rw [hk] at S3
        refine (hb Hs1).run _ _ _ _ W _ tk S3 ?_
        cases q2 : mb (setD r' t.is xs) with
        | stuck => rw [q2] at P'; exact P'
        | nx r2 =>
          rw [q2] at P'
          exact fun Hs4 H4 σ4 S4 => ⟨Hs4, r2, S4, P'⟩
        | rt d r2 =>
          rw [q2] at P'
          exact fun Hs4 H4 σ4 v ks2 z S4 => P' Hs4 H4 σ4 v ks2 z (S4.up F1.1 F1.2.2.1)
        | exc z r2 =>
          rw [q2] at P'
          exact fun Hs4 H4 σ4 c dd ks2 w S4 xr => P' Hs4 H4 σ4 c dd ks2 w (S4.up F1.1 F1.2.2.1) xr
  · have e : i = ds.length := by omega
    subst e
    rw [List.drop_length] at P'
    exact .inl ⟨J1.stop Hs' H' fs.1 S'.sub fs.2.1, P' Hs' H' σ' (S'.up F1.1 F1.2.2.1)⟩
def whileL (tc : Sl → R Bool) (mb : Sl → O) : Nat → Sl → O
  | 0, _ => .stuck
  | n + 1, r => onR (tc r) r fun b => if b then (match mb r with
    | .nx r' => whileL tc mb n r'
    | o => o) else .nx r
theorem ss_while {c : Expr} {body : List Stmt} {tc : Sl → R Bool} {mb : Sl → O} (n : Nat) (hp : PassesOwn (model X.prog X.w) X.A X.env X.xe) (hc : ST X E ks c tc) (hb : SB X E kr fin ks body mb ks) (hf : fin ks := by trivial) :
    SS X E kr fin ks (.While c body [] pos) (whileL tc mb n) ks := by
  refine ⟨fun Hs H r σ W Dn tk S P => ?_⟩
  refine ws_of (ps_while hp pt_wt pss_ws) ?_
  refine ⟨fun m σ' H' => ∃ Hs' r', StRel E Hs' H' ks r' σ' ∧ PostS E ks kr fin W Dn (whileL tc mb m r'), ⟨n, Hs, r, S, P⟩, ?_⟩
  rintro m σ' H' ⟨Hs', r', S', P'⟩
  cases m with
  | zero => exact P'.elim
  | succ m =>
    dsimp only [whileL] at P'
    refine hc.run _ _ _ _ _ _ tk S' (PostT.ofS hf S' P' fun x Hs2 H2 e1 g1 P1 => ?_)
    cases x with
    | false => exact iteF (P1 Hs2 H2 σ' (S'.grow g1))
    | true =>
      refine iteT ⟨fun σ3 H3 => ∃ Hs3 r3, StRel E Hs3 H3 ks r3 σ3 ∧ PostS E ks kr fin W Dn (whileL tc mb m r3), fun σ3 H3 ⟨Hs3, r3, z1, z2⟩ => ⟨m, Nat.lt_succ_self m, Hs3, r3, z1, z2⟩, ?_⟩
      refine hb.run _ _ _ _ W _ tk (S'.grow g1) ?_
      rw [if_pos rfl] at P1
      cases q2 : mb r' with
      | stuck => rw [q2] at P1; exact P1
      | nx r2 =>
        rw [q2] at P1
        exact fun Hs4 H4 σ4 S4 => ⟨Hs4, r2, S4, P1⟩
      | rt d r2 => rw [q2] at P1; exact P1
      | exc z r2 => rw [q2] at P1; exact P1
end
end VL
end

noncomputable section
namespace VL
open PySem PySem.Spec PyProof.Rows L2

/-! ### lists changed in place -/
section
variable {X : Cx} {E : En} {kr : Kd} {fin : List Kd → Prop} {ks ks' : List Kd} {e : Expr} {g : Sl → R D} {pos : Pos}
theorem tyV_lst {K : PySem.W.Frag} {H : Hp} {a : Addr} {xs : List V} (h : H a = some (.lst xs)) : tyV K "list" (.ref a) H := .inl ⟨rfl, xs, SqL.of h⟩
@[simp] def mApp (i : Nat) (g : Sl → R D) : Sl → O := fun r => match r[i]? with
  | some (some (.lst ds)) => onR (g r) r fun d => if ds.length < szL then .nx (r.set i (some (.lst (ds ++ [d])))) else .stuck
  | _ => .stuck
/-- x.append(e) -/
theorem ss_append {i : Nat} {n : Option Addr} {x : Str} {p1 p2 p3 : Pos} (he : SE X E ks .val e g) (hf : fin ks := by trivial) (hk : ks[i]? = some (.own n) := by rfl) (hN : X.N[i]? = some x := by rfl) (hv : Vis X.env.scope x := by first | exact Or.inl rfl | exact Or.inr (Or.inl rfl) | exact Or.inr (Or.inr rfl))
    (hq : NmOk x)
    (hs : swapsWith (.Call (.Attribute (.Name x p1) "append" p2) [e] [] p3) none pos.line X.env = pure false := by rfl)
    (hbase : attributeBase (.Name x p1) "append" X.env (eval (.Name x p1) X.env) = eval (.Name x p1) X.env := by rfl)
    (hfew : ((backTo p3 (starEach [e] X.env)).all (fun x => !x.1) && (backToKw p3 (keywordEach [] X.env)).all (fun x => x.1.isSome)
      && decide ([e].length + ([] : List Keyword).length + (if ([] : List Keyword).isEmpty then 0 else 1) < 30)) = true := by rfl)
    (hline : (p2.endLine == p3.line) = true := by rfl) (hst : starEach [e] X.env = (false, eval e X.env) :: starEach [] X.env := by rfl) (hplain : (backTo p3 (starEach [] X.env)).any (·.1) = false := by rfl) :
    SS X E kr fin ks (.Expr (.Call (.Attribute (.Name x p1) "append" p2) [e] [] p3) pos) (mApp i g) ks := by
  refine ⟨fun Hs H r σ W Dn tk S P => ?_⟩
  refine ws_of (ps_expr (pe_bm PySem.F.plainAttrs_list PySem.F.slot_list_append PySem.F.type_list_append mt_append (pe_var hN hv hq.1 hq.2) (pa_cons pe_we pa_nil hst) hbase hfew hline hst hplain) hs) ?_
  unfold mApp at P
  split at P
  · rename_i ds q
    obtain ⟨a, xs, ea, h1, r1, _⟩ := S.mutL hk q
    refine ⟨.ref a, ea, tyV_lst h1, ?_⟩
    refine he.run _ _ _ _ _ _ tk S (Post.ofS hf S P fun d v Hs' H' e1 g1 k1 P1 => ?_)
    obtain ⟨a', xs', ea', h2, r2, up⟩ := (S.grow g1).mutL hk q
    rw [ea] at ea'
    cases ea'
    split at P1
    · rename_i hz
      exact ⟨a, xs', v, rfl, rfl, h2, by rw [szL_eq, r2.length]; exact hz, P1 _ _ _ (up _ _ (r2.app (.cons k1.rep .nil)))⟩
    · exact P1.elim
  · exact P.elim
@[simp] def mSetI (i : Nat) (gi g : Sl → R D) : Sl → O := fun r => match r[i]? with
  | some (some (.lst ds)) => onR (g r) r fun d => onR (noX (gi r)) r fun z => (match z with
    | .int k => (match ixN ds.length k with
      | some j => .nx (r.set i (some (.lst (ds.set j d))))
      | none => .stuck)
    | _ => .stuck)
  | _ => .stuck
/-- x[b] = e -/
theorem ss_setI {i : Nat} {n : Option Addr} {x : Str} {b : Expr} {gb : Sl → R D} {p1 p2 : Pos} (hb : SE X E ks .bor b gb) (he : SE X E ks .val e g) (hf : fin ks := by trivial) (hk : ks[i]? = some (.own n) := by rfl) (hN : X.N[i]? = some x := by rfl) (hv : Vis X.env.scope x := by first | exact Or.inl rfl | exact Or.inr (Or.inl rfl) | exact Or.inr (Or.inr rfl))
    (hq : NmOk x)
    (hs : swapsWithSole [.Subscript (.Name x p1) b p2] e pos.line X.env = pure false := by rfl) (hw : swappedStores [.Subscript (.Name x p1) b p2] e X.env = pure none := by rfl)
    (h1 : (assignEach [.Subscript (.Name x p1) b p2] X.env).map (·.2) = [assign (.Subscript (.Name x p1) b p2) X.env] := by rfl)
    (ha : ∀ v, assign (.Subscript (.Name x p1) b p2) X.env v = (do
      let ov ← holding [v] (eval (.Name x p1) X.env)
      let iv ← holding [v, ov] (eval b X.env)
      standAt p2
      holding [v, ov, iv] (setItem ov iv v)
      release [v, ov, iv] []) := by intro _; rfl) :
    SS X E kr fin ks (.Assign [.Subscript (.Name x p1) b p2] e pos) (mSetI i gb g) ks := by
  refine ⟨fun Hs H r σ W Dn tk S P => ?_⟩
  refine ws_of (ps_asg pe_we (pg_sub (pe_var hN hv hq.1 hq.2) pe_we set_list ha) hs hw h1) ?_
  unfold mSetI at P
  split at P
  · rename_i ds q
    refine he.run _ _ _ _ _ _ tk S (Post.ofS hf S P fun d v Hs' H' e1 g1 k1 P1 => ?_)
    have S1 := S.grow g1
    obtain ⟨a, xs, ea, h1, r1, _⟩ := S1.mutL hk q
    refine ⟨.ref a, ea, ?_⟩
    refine hb.run _ _ _ _ _ _ tk S1 ?_
    cases q1 : gb r with
    | stuck => rw [q1] at P1; exact P1.elim
    | exc z => rw [q1] at P1; exact P1.elim
    | ok z =>
      rw [q1] at P1
      dsimp only [onR, noX] at P1
      intro v2 Hs2 H2 g2 k2
      cases z <;> first | exact P1.elim | skip
      rename_i k
      cases k2.rb.intInv
      obtain ⟨a', xs', ea', h3, r3, up⟩ := (S1.grow g2).mutL hk q
      rw [ea] at ea'
      cases ea'
      cases q3 : ixN ds.length k with
      | none => simp only [q3] at P1; exact P1.elim
      | some j =>
        simp only [q3] at P1
        exact ⟨a, xs', k, j, rfl, rfl, h3, by rw [r3.length]; exact q3, P1 _ _ _ (up _ _ (r3.set j (Rep.same g2.s _ _ k1.rep)))⟩
  · exact P.elim
/-! x op= e -/
@[simp] def dIAdd : D → D → R D
  | .int i, .int j => .ok (.int (i + j))
  | _, _ => .stuck
@[simp] def mAugI (i : Nat) (f : D → D → R D) (g : Sl → R D) : Sl → O := fun r => match r[i]? with
  | some (some d0) => onR (g r) r fun d => onR (noX (f d0 d)) r fun z => .nx (r.set i (some z))
  | _ => .stuck
theorem ss_augI {i : Nat} {x : Str} {op : Operator} {f : Int → Int → Int} {fd : D → D → R D} {p1 : Pos} (hN : X.N.Nodup) (ho : PIp X op (ipI f)) (hfd : ∀ a b c, fd a b = .ok c → ∃ i j, a = .int i ∧ b = .int j ∧ c = .int (f i j)) (he : SE X E ks .bor e g) (hf : fin ks := by trivial) (hk : ks[i]? = some .val := by rfl)
    (hi : X.N[i]? = some x := by rfl) (hx : Loc X.env.scope x := by first | exact Or.inl rfl | exact Or.inr rfl) (hfn : X.fn x = true ∨ X.env.scope.names.lookup x = some .local := by first | exact .inl rfl | exact .inr rfl | assumption) :
    SS X E kr fin ks (.AugAssign (.Name x p1) op e pos) (mAugI i fd g) ks := by
  refine ⟨fun Hs H r σ W Dn tk S P => ?_⟩
  refine ws_of (ps_aug (i := i) hN hi hx pe_we ho hfn) ?_
  unfold mAugI at P
  split at P
  · rename_i d0 q
    obtain ⟨v0, A, e0, o0⟩ := S.get hk q
    refine ⟨v0, e0, ?_⟩
    refine he.run _ _ _ _ _ _ tk S (Post.ofS hf S P fun d v Hs' H' e1 g1 k1 P1 => ?_)
    cases q2 : fd d0 d with
    | stuck => rw [q2] at P1; exact P1.elim
    | exc z => rw [q2] at P1; exact P1.elim
    | ok z =>
      rw [q2] at P1
      obtain ⟨n, m, rfl, rfl, rfl⟩ := hfd _ _ _ q2
      cases o0 with
      | val r0 =>
        cases r0
        cases k1.rb.intInv
        have S2 := (S.grow g1).putK (Grow.refl g1.sub) hk rfl (RK.val (H0 := H') (.int (f n m)))
        have ek : ks.set i Kd.val = ks := by
          obtain ⟨h, e2⟩ := List.getElem?_eq_some_iff.mp hk
          rw [← e2, List.set_getElem_self]
        rw [ek] at S2
        exact ⟨n, m, rfl, rfl, P1 _ _ _ S2⟩
  · exact P.elim
theorem ss_iadd {i : Nat} {x : Str} {p1 : Pos} (hN : X.N.Nodup) (he : SE X E ks .bor e g) (hf : fin ks := by trivial) (hk : ks[i]? = some .val := by rfl)
    (hi : X.N[i]? = some x := by rfl) (hx : Loc X.env.scope x := by first | exact Or.inl rfl | exact Or.inr rfl) (hfn : X.fn x = true ∨ X.env.scope.names.lookup x = some .local := by first | exact .inl rfl | exact .inr rfl | assumption) :
    SS X E kr fin ks (.AugAssign (.Name x p1) .Add e pos) (mAugI i dIAdd g) ks :=
  ss_augI hN ip_add (fun a b c h => by cases a <;> cases b <;> first | (cases h; done) | (cases h; exact ⟨_, _, rfl, rfl, rfl⟩)) he hf hk hi hx hfn
theorem ss_isub {i : Nat} {x : Str} {p1 : Pos} (hN : X.N.Nodup) (he : SE X E ks .bor e g) (hf : fin ks := by trivial) (hk : ks[i]? = some .val := by rfl)
    (hi : X.N[i]? = some x := by rfl) (hx : Loc X.env.scope x := by first | exact Or.inl rfl | exact Or.inr rfl) (hfn : X.fn x = true ∨ X.env.scope.names.lookup x = some .local := by first | exact .inl rfl | exact .inr rfl | assumption) :
    SS X E kr fin ks (.AugAssign (.Name x p1) .Sub e pos) (mAugI i dSub g) ks :=
  ss_augI hN ip_sub (fun a b c h => by cases a <;> cases b <;> first | (cases h; done) | (cases h; exact ⟨_, _, rfl, rfl, rfl⟩)) he hf hk hi hx hfn
/-- x += e, an owned list -/
@[simp] def mExt (i : Nat) (g : Sl → R D) : Sl → O := fun r => match r[i]? with
  | some (some (.lst ds)) => onR (g r) r fun d => (match d with
    | .lst es => if ds.length + es.length ≤ szL then .nx (r.set i (some (.lst (ds ++ es)))) else .stuck
    | _ => .stuck)
  | _ => .stuck
theorem pip_of {op : Operator} {t : R2} (h : OpR X (inplaceOp op) t) : PIp X op t := fun pins s σ H x y v u Q I rx ry q => h pins s σ H x y v u Q I rx ry q
theorem ss_ext {i : Nat} {n : Option Addr} {x : Str} {p1 : Pos} (hN : X.N.Nodup) (he : SE X E ks .val e g) (hf : fin ks := by trivial) (hk : ks[i]? = some (.own n) := by rfl)
    (hi : X.N[i]? = some x := by rfl) (hx : Loc X.env.scope x := by first | exact Or.inl rfl | exact Or.inr rfl) (hfn : X.fn x = true ∨ X.env.scope.names.lookup x = some .local := by first | exact .inl rfl | exact .inr rfl | assumption) :
    SS X E kr fin ks (.AugAssign (.Name x p1) .Add e pos) (mExt i g) ks := by
  refine ⟨fun Hs H r σ W Dn tk S P => ?_⟩
  refine ws_of (ps_aug (i := i) hN hi hx pe_we (pip_of iop_ext) hfn) ?_
  unfold mExt at P
  split at P
  · rename_i ds q
    obtain ⟨a, xs, ea, h1, r1, _⟩ := S.mutL hk q
    refine ⟨.ref a, ea, ?_⟩
    refine he.run _ _ _ _ _ _ tk S (Post.ofS hf S P fun d v Hs' H' e1 g1 k1 P1 => ?_)
    obtain ⟨a', xs', ea', h2, r2, up⟩ := (S.grow g1).mutL hk q
    rw [ea] at ea'
    cases ea'
    cases d <;> first | exact P1.elim | skip
    rename_i es
    dsimp only at P1
    split at P1
    · rename_i hz
      have kr1 := k1.rep
      cases kr1 with
      | lst h3 r3 =>
        have eσ : σ.set i (some (.ref a)) = σ := by
          obtain ⟨h, e2⟩ := List.getElem?_eq_some_iff.mp ea
          rw [← e2, List.set_getElem_self]
        refine ⟨a, _, xs', _, rfl, rfl, h2, g1.sub.at _ _ h3, by rw [szL_eq, r2.length, r3.length]; exact hz, ?_⟩
        show Dn.nx (σ.set i (some (.ref a))) _
        rw [eσ]
        exact P1 _ _ _ (up _ _ (r2.app r3))
    · exact P1.elim
  · exact P.elim
end

/-! ### exceptions -/
section
variable {X : Cx} {E : En} {kr : Kd} {fin : List Kd → Prop} {ks ks' : List Kd} {e : Expr} {g : Sl → R D} {pos : Pos}
@[simp] def mRaise (C : Str) : Sl → O := fun r => .exc ⟨C, none⟩ r
/-- what is known of an own class without __init__ -/
structure XPlain (K : PySem.W.Frag) (mg : Str → Option Value) (cl : Cl) (C : Str) : Prop where
  ex : ∃ a, cl.f C = some a ∧ mg C = some (.ref a) ∧ PySem.W.excIn K a [.type "ValueError", .type "Exception", .type "BaseException", .type "object"] "ValueError.__new__" = true ∧ PySem.W.keepIn K (.ref a) = true ∧
    PySem.W.subIn K (.ref a) (.type "BaseException") = some true ∧ PySem.W.typeIn K (.ref a) = some (.type "type")
theorem ss_raise {C m : Str} {j : Nat} {p1 p2 p3 : Pos} (hc : X.calm = true) (T : XPlain X.K X.mg E.cl C) (hq : NmOk C) (hg : Gl X C := by rfl) (hf : fin ks := by trivial) :
    SS X E kr fin ks (.Raise (some (.Call (.Name C p1) [.Constant (.str m) j p2] [] p3)) none pos) (mRaise C) ks' := by
  refine ⟨fun Hs H r σ W Dn tk S P => ?_⟩
  obtain ⟨a, h1, h2, h3, h4, h5, h6⟩ := T.ex
  exact ws_of (ps_raise hc tk (pmk_own PySem.F.excBase_ValueError h3 h2 h4 (raises_own h5 h6) hg hq.1)) (P Hs H σ _ _ ks hf S ⟨a, h1, rfl, rfl⟩)
/-- an own class whose __init__ stores its one argument in the field «at» -/
structure XAt (P : Program) (w : World) (K : PySem.W.Frag) (mg : Str → Option Value) (base : Heap) (cl : Cl) (C : Str) (k : Nat) : Prop where
  ex : ∃ a fI fd ps, cl.f C = some a ∧ mg C = some (.ref a) ∧ OexC K a ∧ PySem.W.findIn K (.ref a) "__init__" = some (some (.ref fI)) ∧ PySem.W.typeIn K (.ref fI) = some (.type "function") ∧ Binds K fd ps [] ∧
    FnOk P w K mg base CX0 k fI fd ps (fun vs H Q _ => ∃ x v, vs = [.ref x, v] ∧ H x = some (exo x a none) ∧ ∀ dx, H dx = none → dx ≠ x → Q .non (upd (upd H x (exo x a (some dx))) dx (exd dx [("at", v)])))
@[simp] def mRaiseAt (C : Str) (g : Sl → R D) : Sl → O := fun r => onR (g r) r fun d => .exc ⟨C, some d⟩ r
theorem ss_raiseAt {C : Str} {k : Nat} {p1 p3 : Pos} (hc : X.calm = true) (T : XAt X.prog X.w X.K X.mg X.base E.cl C k) (hr : Room (k + 1) X.A) (he : SE X E ks .val e g) (hq : NmOk C) (hg : Gl X C := by rfl) (hf : fin ks := by trivial)
    (hst : starEach (e :: []) X.env = (false, eval e X.env) :: starEach [] X.env := by rfl) (hpl : (backTo p3 (starEach [] X.env)).any (·.1) = false := by rfl) :
    SS X E kr fin ks (.Raise (some (.Call (.Name C p1) [e] [] p3)) none pos) (mRaiseAt C g) ks' := by
  refine ⟨fun Hs H r σ W Dn tk S P => ?_⟩
  obtain ⟨a, fI, fd, ps, h1, h2, h3, h4, h5, h6, h7⟩ := T.ex
  refine ws_of (ps_raise hc tk (pmk_oex h3 h4 h5 h7 hr h6 .nil pass0 hg h2 pa_wa hq.1 hst hpl)) ?_
  refine wa_one (he.run _ _ _ _ _ _ tk S (Post.ofS hf S P fun d v Hs' H' e1 g1 k1 P1 => ?_)) hst
  refine ⟨by show 1 ≤ 1000; decide, fun x hx => ⟨x, v, rfl, upd_same, fun dx hd ne => ⟨rfl, dx, [("at", v)], ?_, upd_same, ?_, ?_⟩⟩⟩
  · rw [upd_ne ne.symm, upd_same]
  · rw [upd_ne ne] at hd
    exact hd
  · have hd' : H' dx = none := by
      rw [upd_ne ne] at hd
      exact hd
    have eq : upd (del (upd (upd (upd H' x (exo x a none)) x (exo x a (some dx))) dx (exd dx [("at", v)])) x) dx (.xd [("at", v)]) = upd H' dx (.xd [("at", v)]) := by
      funext b
      by_cases hb : b = dx
      · rw [hb, upd_same, upd_same]
      · rw [upd_ne hb, upd_ne hb]
        by_cases hx2 : b = x
        · rw [hx2, del_same, hx]
        · rw [del_ne hx2, upd_ne hb, upd_ne hx2, upd_ne hx2]
    rw [eq]
    have g2 := Grow.new g1.sub (o := .xd [("at", v)]) hd'
    exact P1 _ _ σ _ _ ks hf ((S.grow g1).grow g2) ⟨a, h1, rfl, dx, v, rfl, upd_same, Rep.same g2.s _ _ k1.rep⟩
end

/-! ### defs -/
/-- a def's promise by its plain function -/
def spV (cl : Cl) (bs : List Bool) (kr : Kd) (f : List D → R D) : Sp := fun vs H Q E => ∃ ds Hs, Same Hs H ∧ RAs cl Hs H bs ds vs ∧ Post cl kr Hs H Q E (f ds)
@[simp] def outF : O → R D
  | .nx _ => .ok .non
  | .rt d _ => .ok d
  | .exc x _ => .exc x
  | .stuck => .stuck
/-- the plain function of a body with n further names -/
@[simp] def runF (m : Sl → O) (n : Nat) : List D → R D := fun ds => outF (m (ds.map some ++ List.replicate n none))
structure Fi (P : Program) (w : World) (K : PySem.W.Frag) (mg : Str → Option Value) (base : Heap) (cl : Cl) (x : Str) (k : Nat) (bs : List Bool) (kr : Kd) (f : List D → R D) : Prop where
  ex : ∃ fa fd ps, FnOk P w K mg base (L2.CX P w) k fa fd ps (spV cl bs kr f) ∧ mg x = some (.ref fa) ∧ PySem.W.keepIn K (.ref fa) = true ∧ Binds K fd ps []
theorem Fi.mono {P : Program} {w : World} {K : PySem.W.Frag} {mg : Str → Option Value} {base : Heap} {cl : Cl} {x : Str} {k k' : Nat} {bs : List Bool} {kr : Kd} {f : List D → R D} (F : Fi P w K mg base cl x k bs kr f) (h : k ≤ k') : Fi P w K mg base cl x k' bs kr f := by
  obtain ⟨fa, fd, ps, h1, h2⟩ := F.ex
  exact ⟨fa, fd, ps, h1.mono h, h2⟩
def kdOf : Bool → Kd
  | true => .val
  | false => .bor
theorem slots_start {E : En} {Hs H : Hp} (eb : E.b = H) : ∀ {bs : List Bool} {ds : List D} {vs : List V}, RAs E.cl Hs H bs ds vs → ∀ (ls : List Kd), Slots E Hs H (bs.map kdOf ++ ls) (ds.map some ++ List.replicate ls.length none) (vs.map some ++ List.replicate ls.length none) []
  | _, _, _, .nil, ls => by
    induction ls with
    | nil => exact .nil
    | cons l ls ih => exact .skip ih
  | _, _, _, .val r t, ls => .cons (A := []) (.val r) (slots_start eb t ls)
  | _, _, _, .bor r t, ls => by
    refine .cons (A := []) ?_ (slots_start eb t ls)
    show ORep E.cl E.N E.b Hs H .bor _ _ []
    cases r with
    | val r => exact .borV r
    | lst h1 h2 => exact .borL (by rw [eb]; exact h1) h2
    | dct h1 h2 => exact .borK (by rw [eb]; exact h1) h2
    | obj h0 h1 h2 => exact .borO h0 (by rw [eb]; exact h1) (by rw [eb]; exact h2)
theorem def_okF {P : Program} {w : World} {K : PySem.W.Frag} {mg : Str → Option Value} {base : Heap} {cl : Cl} {x qual : Str} {st : Stmt} {fa : Addr} {fd : FuncData} {N ps : List Str} {k : Nat} {bs : List Bool} {kr : Kd} {ls ks' : List Kd} {m : Sl → O}
    (F : Fun K x qual st fa fd) (S : FnScope N ps (defScope st)) (hb : bs.length = ps.length) (hN : N.length = ps.length + ls.length) (fk : kr.fine = true) (ko : kr = .val ∨ kr = .own none)
    (body : ∀ (cdv : Value) (A : Around) (outer : List Env) (s : Shared) (H : Hp) (E : XK) (h0 s0 b0 : Hp), Room k (A.deeper (envOfC qual (defScope st) s.heap.objs.size fa cdv)) →
      SB (cxOf (L2.CX P w) P w K mg base N qual (defScope st) fa cdv A outer s H E) ⟨cl, h0, s0, b0⟩ kr (fun _ => True) (bs.map kdOf ++ ls) (defBody st) m ks') : FnOk P w K mg base (L2.CX P w) (k + 1) fa fd ps (spV cl bs kr (runF m ls.length)) := by
  refine F.okX S (fun vs H Q E h => ?_) (fun cdv A outer s H vs Q E hr h => ?_)
  · obtain ⟨ds, Hs, _, a, _⟩ := h
    rw [a.len.1, hb]
  · obtain ⟨ds, Hs, e, a, p⟩ := h
    refine ⟨_, pss_ws, ?_⟩
    have tk : Takes (cxOf (L2.CX P w) P w K mg base N qual (defScope st) fa cdv A outer s H E) (fun c dd _ H' => E c dd H') := takes_of rfl rfl rfl rfl
    have hst : L2.start N vs = vs.map some ++ List.replicate ls.length none := by
      unfold L2.start
      rw [a.len.1, hb, hN, Nat.add_sub_cancel_left]
    have S0 : StRel ⟨cl, H, Hs, H⟩ Hs H (bs.map kdOf ++ ls) (ds.map some ++ List.replicate ls.length none) (L2.start N vs) := by
      rw [hst]
      exact ⟨[], slots_start rfl a ls, List.nodup_nil, (fun a ha => nomatch ha), Same.refl _, e, Same.refl _, fun a z => .inl z, fun a z => z, fun _ z => z⟩
    refine (body cdv A outer s H E H Hs H hr).run _ _ _ _ _ _ tk S0 ?_
    unfold runF at p
    cases q : m (ds.map some ++ List.replicate ls.length none) with
    | stuck => rw [q] at p; exact p
    | nx r =>
      rw [q] at p
      intro Hs' H' σ' S'
      have f := S'.facts
      refine p .non Hs' H' ⟨f.1, f.2.1, f.2.2.1, S'.sub, f.2.2.2⟩ ?_
      rcases ko with rfl | rfl
      · exact RK.val .non
      · exact RK.ownPlain rfl .non
    | rt d r =>
      rw [q] at p
      intro Hs' H' σ' v ks2 _ S'
      have f := S'.facts
      refine p v Hs' H' ⟨f.1, f.2.1, f.2.2.1, S'.sub, f.2.2.2⟩ ?_
      obtain ⟨As, s'⟩ := S'
      have sl := s'.sl
      cases sl with
      | cons o t =>
        rename_i A As'
        refine ⟨A, ORep.anyB kr _ _ _ fk o, (List.nodup_append.mp s'.nd).1, fun a ha => ?_⟩
        have z := s'.dis a (List.mem_append_left _ ha)
        exact ⟨z.1, z.2⟩
    | exc z r =>
      rw [q] at p
      intro Hs' H' σ' c dd ks2 _ S' xr
      have f := S'.facts
      exact p c dd Hs' H' ⟨f.1, f.2.1, f.2.2.1, S'.sub, f.2.2.2⟩ xr
theorem def_ok {P : Program} {w : World} {K : PySem.W.Frag} {mg : Str → Option Value} {base : Heap} {cl : Cl} {x qual : Str} {st : Stmt} {fa : Addr} {fd : FuncData} {N ps : List Str} {k : Nat} {bs : List Bool} {kr : Kd} {ls ks' : List Kd} {m : Sl → O}
    (F : Fun K x qual st fa fd) (S : FnScope N ps (defScope st)) (gm : mg x = some (.ref fa)) (bn : Binds K fd ps []) (hb : bs.length = ps.length) (hN : N.length = ps.length + ls.length) (fk : kr.fine = true) (ko : kr = .val ∨ kr = .own none)
    (body : ∀ (cdv : Value) (A : Around) (outer : List Env) (s : Shared) (H : Hp) (E : XK) (h0 s0 b0 : Hp), Room k (A.deeper (envOfC qual (defScope st) s.heap.objs.size fa cdv)) →
      SB (cxOf (L2.CX P w) P w K mg base N qual (defScope st) fa cdv A outer s H E) ⟨cl, h0, s0, b0⟩ kr (fun _ => True) (bs.map kdOf ++ ls) (defBody st) m ks') : Fi P w K mg base cl x (k + 1) bs kr (runF m ls.length) :=
  ⟨fa, fd, ps, def_okF F S hb hN fk ko body, gm, F.kp, bn⟩
/-- f(e, ..) -/
theorem se_call {X : Cx} {E : En} {ks : List Kd} {x : Str} {k : Nat} {bs : List Bool} {kr : Kd} {f : List D → R D} {e : Expr} {es : List Expr} {t : Sl → R (List D)} {p pos : Pos} (F : Fi X.prog X.w X.K X.mg X.base E.cl x k bs kr f) (hr : Room k X.A) (ha : SA X E ks bs (e :: es) t)
    (hq : NmOk x) (hg : Gl X x := by rfl) (he : starEach (e :: es) X.env = (false, eval e X.env) :: starEach es X.env := by rfl) (hpl : (backTo pos (starEach es X.env)).any (·.1) = false := by rfl) :
    SE X E ks kr (.Call (.Name x p) (e :: es) [] pos) (gCall f t) := by
  refine ⟨fun Hs H r σ W Q tk S P => ?_⟩
  obtain ⟨fa, fd, ps, h1, h2, h3, h4⟩ := F.ex
  refine we_of (pe_callS h1 hr hg h2 h3 h4 (fun σ => passAt tk σ) pa_wa hq.1 he hpl) ?_
  refine ha.run _ _ _ _ _ _ tk S (PostA.of P fun ds vs Hs' H' e1 g1 a P1 => ?_)
  exact ⟨ds, Hs', g1.sub, a, P1⟩
end VL
end

noncomputable section
namespace VL
open PySem PySem.Spec PyProof.Rows L2

/-! ### the built-in names -/
theorem bb_len : bootBuiltins "len" = some (.builtin "len") := by decide +kernel
theorem bn_len : ("len" : Str) ≠ "__name__" := by decide
theorem bd_len : (("len" : Str) == ("__debug__" : Str)) = false := by decide
theorem bb_min : bootBuiltins "min" = some (.builtin "min") := by decide +kernel
theorem bn_min : ("min" : Str) ≠ "__name__" := by decide
theorem bd_min : (("min" : Str) == ("__debug__" : Str)) = false := by decide
theorem bb_max : bootBuiltins "max" = some (.builtin "max") := by decide +kernel
theorem bn_max : ("max" : Str) ≠ "__name__" := by decide
theorem bd_max : (("max" : Str) == ("__debug__" : Str)) = false := by decide
theorem bb_abs : bootBuiltins "abs" = some (.builtin "abs") := by decide +kernel
theorem bn_abs : ("abs" : Str) ≠ "__name__" := by decide
theorem bd_abs : (("abs" : Str) == ("__debug__" : Str)) = false := by decide
theorem bb_sum : bootBuiltins "sum" = some (.builtin "sum") := by decide +kernel
theorem bn_sum : ("sum" : Str) ≠ "__name__" := by decide
theorem bd_sum : (("sum" : Str) == ("__debug__" : Str)) = false := by decide
theorem bb_all : bootBuiltins "all" = some (.builtin "all") := by decide +kernel
theorem bn_all : ("all" : Str) ≠ "__name__" := by decide
theorem bd_all : (("all" : Str) == ("__debug__" : Str)) = false := by decide
theorem bb_any : bootBuiltins "any" = some (.builtin "any") := by decide +kernel
theorem bn_any : ("any" : Str) ≠ "__name__" := by decide
theorem bd_any : (("any" : Str) == ("__debug__" : Str)) = false := by decide
theorem bb_sorted : bootBuiltins "sorted" = some (.builtin "sorted") := by decide +kernel
theorem bn_sorted : ("sorted" : Str) ≠ "__name__" := by decide
theorem bd_sorted : (("sorted" : Str) == ("__debug__" : Str)) = false := by decide
theorem bb_isinstance : bootBuiltins "isinstance" = some (.builtin "isinstance") := by decide +kernel
theorem bn_isinstance : ("isinstance" : Str) ≠ "__name__" := by decide
theorem bd_isinstance : (("isinstance" : Str) == ("__debug__" : Str)) = false := by decide
theorem bb_list : bootBuiltins "list" = some (.type "list") := by decide +kernel
theorem bn_list : ("list" : Str) ≠ "__name__" := by decide
theorem bd_list : (("list" : Str) == ("__debug__" : Str)) = false := by decide
theorem bb_tuple : bootBuiltins "tuple" = some (.type "tuple") := by decide +kernel
theorem bn_tuple : ("tuple" : Str) ≠ "__name__" := by decide
theorem bd_tuple : (("tuple" : Str) == ("__debug__" : Str)) = false := by decide
theorem bb_int : bootBuiltins "int" = some (.type "int") := by decide +kernel
theorem bn_int : ("int" : Str) ≠ "__name__" := by decide
theorem bd_int : (("int" : Str) == ("__debug__" : Str)) = false := by decide
theorem bb_bool : bootBuiltins "bool" = some (.type "bool") := by decide +kernel
theorem bn_bool : ("bool" : Str) ≠ "__name__" := by decide
theorem bd_bool : (("bool" : Str) == ("__debug__" : Str)) = false := by decide
theorem bb_str : bootBuiltins "str" = some (.type "str") := by decide +kernel
theorem bn_str : ("str" : Str) ≠ "__name__" := by decide
theorem bd_str : (("str" : Str) == ("__debug__" : Str)) = false := by decide
theorem bb_set : bootBuiltins "set" = some (.type "set") := by decide +kernel
theorem bn_set : ("set" : Str) ≠ "__name__" := by decide
theorem bd_set : (("set" : Str) == ("__debug__" : Str)) = false := by decide
theorem bb_dict : bootBuiltins "dict" = some (.type "dict") := by decide +kernel
theorem bn_dict : ("dict" : Str) ≠ "__name__" := by decide
theorem bd_dict : (("dict" : Str) == ("__debug__" : Str)) = false := by decide

/-! ### isinstance -/
inductive Ty5 where
  | list | tuple | bool | str | int
def Ty5.nm : Ty5 → String
  | .list => "list"
  | .tuple => "tuple"
  | .bool => "bool"
  | .str => "str"
  | .int => "int"
@[simp] def isTy : Ty5 → D → Bool
  | .list, .lst _ => true
  | .tuple, .tup _ => true
  | .bool, .bl _ => true
  | .str, .str _ => true
  | .int, .int _ => true
  | .int, .bl _ => true
  | _, _ => false
@[simp] def tyNm : D → Option String
  | .non => some "NoneType"
  | .bl _ => some "bool"
  | .int _ => some "int"
  | .str _ => some "str"
  | .lst _ => some "list"
  | .tup _ => some "tuple"
  | .dct _ => none
  | .obj _ _ => none
  | .scr _ => none
theorem RB.tyX {K : PySem.W.Frag} {cl : Cl} {Hs H : Hp} {d : D} {v : V} {t : String} (h : RB cl Hs H d v) (e : Same Hs H) (q : tyNm d = some t) : TyX K H v (.type t) := by
  cases d with
  | non => cases q; cases h.nonInv; exact .base .non
  | bl b => cases q; cases h.blInv; exact .base (.bl _)
  | int i => cases q; cases h.intInv; exact .base (.int _)
  | str x => cases q; cases h.strInv; exact .base (.str _)
  | lst ds => cases q; obtain ⟨a, xs, rfl, h1, _⟩ := h.lstInv e; exact .base (.lst h1)
  | tup ds => cases q; obtain ⟨a, xs, rfl, h1, _⟩ := h.tupInv e; exact .base (.tup h1)
  | dct ds => cases q
  | obj _ _ => cases q
  | scr _ => cases q
def allTy : List String := ["NoneType", "bool", "int", "str", "list", "tuple", "dict"]
theorem kit_list : ∀ t ∈ allTy, kitB t "list" = some (t == "list") := by decide +kernel
theorem kit_tuple : ∀ t ∈ allTy, kitB t "tuple" = some (t == "tuple") := by decide +kernel
theorem kit_bool : ∀ t ∈ allTy, kitB t "bool" = some (t == "bool") := by decide +kernel
theorem kit_str : ∀ t ∈ allTy, kitB t "str" = some (t == "str") := by decide +kernel
theorem kit_int : ∀ t ∈ allTy, kitB t "int" = some (t == "int" || t == "bool") := by decide +kernel
theorem kit_is (T : Ty5) (d : D) (t : String) (q : tyNm d = some t) : kitB t T.nm = some (isTy T d) := by
  cases T <;> cases d <;> first | (cases q; done) | (cases q; first | exact kit_list _ (by decide) | exact kit_tuple _ (by decide) | exact kit_bool _ (by decide) | exact kit_str _ (by decide) | exact kit_int _ (by decide))
@[simp] def dIs (T : Ty5) (d : D) : R D := match tyNm d with
  | some _ => .ok (.bl (isTy T d))
  | none => .stuck
@[simp] def dIsLT (d : D) : R D := match tyNm d with
  | some _ => .ok (.bl (isTy .list d || isTy .tuple d))
  | none => .stuck
section
variable {X : Cx} {E : En} {ks : List Kd} {e : Expr} {g : Sl → R D} {p p1 p2 p3 pos : Pos}
/-- isinstance(e, T) -/
theorem se_isi (T : Ty5) {y : Str} (he : SE X E ks .bor e g) (hm : X.mg "isinstance" = none) (hmT : X.mg y = none) (hb : bootBuiltins y = some (.type T.nm)) (hn : y ≠ "__name__") (hdb : (y == ("__debug__" : Str)) = false) (hg : Gl X "isinstance" := by rfl) (hgT : Gl X y := by rfl)
    (hs : starEach [e, .Name y p2] X.env = (false, eval e X.env) :: starEach [.Name y p2] X.env := by rfl) (hs2 : starEach [.Name y p2] X.env = (false, eval (.Name y p2) X.env) :: starEach [] X.env := by rfl) (hpl : (backTo pos (starEach [.Name y p2] X.env)).any (·.1) = false := by rfl) :
    SE X E ks .val (.Call (.Name "isinstance" p1) [e, .Name y p2] [] pos) (gUn (dIs T) g) := by
  refine ⟨fun Hs H r σ W Q tk S P => ?_⟩
  refine we_of (pe_callB call_isi hg hm bb_isinstance (pa_cons pe_we (pa_cons (pe_bltn (v := .ty T.nm) hgT hmT hb rfl hn hdb) pa_nil hs2) hs) (by decide) (by decide) hs hpl) ?_
  refine he.run _ _ _ _ _ _ tk S (P.imp fun d v Hs1 H1 e1 g1 k1 P1 => ?_)
  unfold dIs at P1
  split at P1
  · rename_i t q
    exact ⟨v, .ty T.nm, .type t, .type T.nm, isTy T d, rfl, .ty _, k1.rb.tyX g1.sub q, kit_ty (kit_is T d t q), P1.finV g1.sub (.bl _)⟩
  · exact P1.elim
/-- isinstance(e, (list, tuple)) -/
theorem se_isiLT {kk : Nat} (he : SE X E ks .bor e g) (hm : X.mg "isinstance" = none) (hmL : X.mg "list" = none) (hmT : X.mg "tuple" = none) (hg : Gl X "isinstance" := by rfl) (hgL : Gl X "list" := by rfl) (hgT : Gl X "tuple" := by rfl)
    (hs : starEach [e, .Tuple [.Name "list" p2, .Name "tuple" p3] kk p] X.env = (false, eval e X.env) :: starEach [.Tuple [.Name "list" p2, .Name "tuple" p3] kk p] X.env := by rfl) (hs2 : starEach [.Tuple [.Name "list" p2, .Name "tuple" p3] kk p] X.env = (false, eval (.Tuple [.Name "list" p2, .Name "tuple" p3] kk p) X.env) :: starEach [] X.env := by rfl)
    (hs3 : starEach [.Name "list" p2, .Name "tuple" p3] X.env = (false, eval (.Name "list" p2) X.env) :: starEach [.Name "tuple" p3] X.env := by rfl) (hs4 : starEach [.Name "tuple" p3] X.env = (false, eval (.Name "tuple" p3) X.env) :: starEach [] X.env := by rfl)
    (hpl : (backTo pos (starEach [.Tuple [.Name "list" p2, .Name "tuple" p3] kk p] X.env)).any (·.1) = false := by rfl) :
    SE X E ks .val (.Call (.Name "isinstance" p1) [e, .Tuple [.Name "list" p2, .Name "tuple" p3] kk p] [] pos) (gUn dIsLT g) := by
  refine ⟨fun Hs H r σ W Q tk S P => ?_⟩
  refine we_of (pe_callB call_isiT hg hm bb_isinstance (pa_cons pe_we (pa_cons (pe_tup (pa_cons (pe_bltn (v := .ty "list") hgL hmL bb_list rfl) (pa_cons (pe_bltn (v := .ty "tuple") hgT hmT bb_tuple rfl) pa_nil hs4) hs3)) pa_nil hs2) hs) (by decide) (by decide) hs hpl) ?_
  refine he.run _ _ _ _ _ _ tk S (P.imp fun d v Hs1 H1 e1 g1 k1 P1 => ?_)
  refine ⟨by show 2 ≤ sizeLine; decide, fun q hq => ?_⟩
  unfold dIsLT at P1
  split at P1
  · rename_i t q2
    have g2 := Grow.fresh (o := .tup [V.ty "list", V.ty "tuple"]) g1.sub hq
    refine ⟨v, q, _, .type t, [.type "list", .type "tuple"], isTy .list d || isTy .tuple d, rfl, upd_same, .cons (.ty _) (.cons (.ty _) .nil), (k1.rb.grow g2).tyX g2.sub q2, ?_, (P1.grow g2).finV g2.sub (.bl _)⟩
    refine kitAny_cons (b := isTy .list d) (kit_ty (kit_is .list d t q2)) (fun z => ?_) (fun z => by rw [z]; rfl)
    rw [z, Bool.false_or]
    exact kitAny_cons (b := isTy .tuple d) (kit_ty (kit_is .tuple d t q2)) (fun z => by rw [z]; exact kitAny_nil) (fun z => z)
  · exact P1.elim
end

/-! ### all, any -/
def blsOf : List D → Option (List Bool)
  | [] => some []
  | .bl i :: r => (blsOf r).map (i :: ·)
  | _ :: _ => none
theorem blsOf_map (ns : List Bool) : blsOf (ns.map D.bl) = some ns := by
  induction ns with
  | nil => rfl
  | cons n ns ih => rw [List.map_cons, blsOf, ih]; rfl
theorem blsOf_eq : ∀ {ds : List D} {ns : List Bool}, blsOf ds = some ns → ds = ns.map D.bl
  | [], _, h => by cases h; rfl
  | d :: r, _, h => by
    cases d <;> first | cases h | skip
    rename_i i
    dsimp only [blsOf] at h
    cases q : blsOf r with
    | none => rw [q] at h; cases h
    | some ms =>
      rw [q] at h
      cases h
      rw [blsOf_eq q]
      rfl
theorem RepL.bls {cl : Cl} {H : Hp} {ns : List Bool} : ∀ {vs : List V}, RepL cl H (ns.map D.bl) vs → vs = ns.map V.bl := by
  induction ns with
  | nil =>
    intro vs h
    cases h
    rfl
  | cons n ns ih =>
    intro vs h
    cases h with
    | cons h1 h2 =>
      cases h1
      rw [ih h2]
      rfl
def fAll : List D → R D
  | [.lst ds] => match blsOf ds with
    | some bs => .ok (.bl (bs.all id))
    | none => .stuck
  | _ => .stuck
def fAny : List D → R D
  | [.lst ds] => match blsOf ds with
    | some bs => .ok (.bl (bs.any id))
    | none => .stuck
  | _ => .stuck
theorem RB.blsInv {cl : Cl} {Hs H : Hp} {ds : List D} {ns : List Bool} {v : V} (h : RB cl Hs H (.lst ds) v) (e : Same Hs H) (q : blsOf ds = some ns) : ∃ a, v = .ref a ∧ H a = some (.lst (ns.map V.bl)) := by
  obtain ⟨p, xs, rfl, h1, r1⟩ := h.lstInv e
  rw [blsOf_eq q] at r1
  rw [r1.bls] at h1
  exact ⟨p, rfl, h1⟩
theorem callv_all {X : Cx} : CallV X.K (rAll X.K) .val [false] fAll := by
  intro cl Hs H ds vs Q W e a P
  obtain ⟨d, v, rfl, rfl, r⟩ := a.one
  cases d <;> first | exact P.elim | skip
  dsimp only [fAll] at P
  split at P
  · rename_i ns q
    obtain ⟨p, rfl, h1⟩ := r.blsInv e q
    exact ⟨p, ns, rfl, SqL.of h1, P.finV e (.bl _)⟩
  · exact P.elim
theorem callv_any {X : Cx} : CallV X.K (rAny X.K) .val [false] fAny := by
  intro cl Hs H ds vs Q W e a P
  obtain ⟨d, v, rfl, rfl, r⟩ := a.one
  cases d <;> first | exact P.elim | skip
  dsimp only [fAny] at P
  split at P
  · rename_i ns q
    obtain ⟨p, rfl, h1⟩ := r.blsInv e q
    exact ⟨p, ns, rfl, SqL.of h1, P.finV e (.bl _)⟩
  · exact P.elim

/-! ### in a list -/
def dIn (d : D) : D → R D
  | .lst ds => if shp d && shp (.lst ds) then .ok (.bl (ds.any fun z => dEqB z d)) else .stuck
  | .str z => (match d with
    | .str ⟨⟨[c]⟩⟩ => .ok (.bl (decide (c ∈ z.cps.toList)))
    | _ => .stuck)
  | _ => .stuck
def dNotIn (d : D) : D → R D
  | .lst ds => if shp d && shp (.lst ds) then .ok (.bl (!ds.any fun z => dEqB z d)) else .stuck
  | _ => .stuck
theorem any_toPys (d : D) : ∀ ds : List D, (toPys ds).any (fun z => PyData.eqv z (toPy d)) = ds.any fun z => dEqB z d
  | [] => rfl
  | x :: xs => by
    show (PyData.eqv (toPy x) (toPy d) || (toPys xs).any _) = (dEqB x d || xs.any _)
    rw [any_toPys d xs]
    rfl
theorem nox_in : NoX dIn := fun a b x h => by
  cases b <;> dsimp only [dIn] at h <;> first | (split at h <;> cases h) | cases h
theorem nox_notIn : NoX dNotIn := fun a b x h => by
  cases b <;> dsimp only [dNotIn] at h <;> first | (split at h <;> cases h) | cases h
theorem opv_in {X : Cx} : OpV X.K (fun x y H Q => rInD X.K x y H Q ∨ ∃ (c : Nat) (z : Str), x = .str ⟨#[c]⟩ ∧ y = .str z ∧ Q (.bl (decide (c ∈ z.cps.toList))) H) .val dIn := by
  intro cl Hs H d1 d2 v1 v2 Q W e b1 b2 P nx
  cases d2 <;> first | exact P.elim | skip
  · cases b2.strInv
    dsimp only [dIn] at P
    split at P
    · rename_i c
      cases b1.strInv
      exact .inr ⟨c, _, rfl, rfl, P.finV e (.bl _)⟩
    · exact P.elim
  rename_i ds
  left
  dsimp only [dIn] at P
  split at P
  · rename_i h
    have h' : shp d1 = true ∧ shp (.lst ds) = true := by simpa using h
    refine ⟨toPy d1, toPys ds, b1.dp e (SeqAt.canLay_of_shaped h'.1), b2.dp e (SeqAt.canLay_of_shaped h'.2), h'.1, h'.2, ?_⟩
    rw [any_toPys]
    exact P.finV e (.bl _)
  · exact P.elim
theorem opv_notIn {X : Cx} : OpV X.K (rNotInD X.K) .val dNotIn := by
  intro cl Hs H d1 d2 v1 v2 Q W e b1 b2 P nx
  cases d2 <;> first | exact P.elim | skip
  rename_i ds
  dsimp only [dNotIn] at P
  split at P
  · rename_i h
    have h' : shp d1 = true ∧ shp (.lst ds) = true := by simpa using h
    refine ⟨toPy d1, toPys ds, b1.dp e (SeqAt.canLay_of_shaped h'.1), b2.dp e (SeqAt.canLay_of_shaped h'.2), h'.1, h'.2, ?_⟩
    rw [any_toPys]
    exact P.finV e (.bl _)
  · exact P.elim

/-! ### sorted -/
def insBy {α : Type} (lt : α → α → Bool) (x : α) : List α → List α
  | [] => [x]
  | y :: r => if lt y x then y :: insBy lt x r else x :: y :: r
def sortBy {α : Type} (lt : α → α → Bool) : List α → List α
  | [] => []
  | x :: r => insBy lt x (sortBy lt r)
/-- a strict total order -/
structure Sto {α : Type} (lt : α → α → Bool) : Prop where
  irr : ∀ x, lt x x = false
  tr : ∀ x y z, lt x y = true → lt y z = true → lt x z = true
  tot : ∀ x y, lt x y = true ∨ x = y ∨ lt y x = true
section
variable {α : Type} {lt : α → α → Bool}
theorem insBy_perm (x : α) : ∀ l : List α, (insBy lt x l).Perm (x :: l)
  | [] => List.Perm.refl _
  | y :: r => by
    unfold insBy
    split
    · exact (List.Perm.cons y (insBy_perm x r)).trans (List.Perm.swap x y r)
    · exact List.Perm.refl _
theorem sortBy_perm : ∀ l : List α, (sortBy lt l).Perm l
  | [] => List.Perm.refl _
  | x :: r => (insBy_perm x _).trans (List.Perm.cons x (sortBy_perm r))
theorem insBy_srt (o : Sto lt) (x : α) : ∀ {l : List α}, l.Pairwise (fun a b => lt b a = false) → (insBy lt x l).Pairwise (fun a b => lt b a = false)
  | [], _ => List.pairwise_singleton _ _
  | y :: r, h => by
    obtain ⟨h1, h2⟩ := List.pairwise_cons.mp h
    unfold insBy
    split
    · rename_i q
      refine List.pairwise_cons.mpr ⟨fun z hz => ?_, insBy_srt o x h2⟩
      rcases List.mem_cons.mp ((insBy_perm x r).mem_iff.mp hz) with e | hz
      · rw [e]
        cases w : lt x y with
        | false => rfl
        | true =>
          have := o.tr _ _ _ q w
          rw [o.irr] at this
          cases this
      · exact h1 z hz
    · rename_i q
      have q' : lt y x = false := by simpa using q
      refine List.pairwise_cons.mpr ⟨fun z hz => ?_, h⟩
      rcases List.mem_cons.mp hz with e | hz
      · rw [e]; exact q'
      · cases w : lt z x with
        | false => rfl
        | true =>
          rcases o.tot x y with u | u | u
          · have := o.tr _ _ _ w u
            rw [h1 z hz] at this
            cases this
          · rw [u] at w
            rw [h1 z hz] at w
            cases w
          · rw [q'] at u; cases u
theorem sortBy_srt (o : Sto lt) : ∀ l : List α, (sortBy lt l).Pairwise (fun a b => lt b a = false)
  | [] => List.Pairwise.nil
  | x :: r => insBy_srt o x (sortBy_srt o r)
theorem srt_uniq (o : Sto lt) : ∀ {l m : List α}, l.Perm m → l.Pairwise (fun a b => lt b a = false) → m.Pairwise (fun a b => lt b a = false) → l = m
  | [], m, p, _, _ => (List.nil_perm.mp p).symm
  | x :: l, [], p, _, _ => absurd (List.perm_nil.mp p) (by simp)
  | x :: l, y :: m, p, h1, h2 => by
    obtain ⟨a1, a2⟩ := List.pairwise_cons.mp h1
    obtain ⟨b1, b2⟩ := List.pairwise_cons.mp h2
    have e : x = y := by
      rcases List.mem_cons.mp (p.mem_iff.mp (List.mem_cons_self (a := x) (l := l))) with e | hx
      · exact e
      · rcases List.mem_cons.mp (p.mem_iff.mpr (List.mem_cons_self (a := y) (l := m))) with e | hy
        · exact e.symm
        · rcases o.tot x y with u | u | u
          · rw [b1 x hx] at u; cases u
          · exact u
          · rw [a1 y hy] at u; cases u
    subst e
    rw [srt_uniq o ((List.perm_cons x).mp p) a2 b2]
theorem sortBy_of (o : Sto lt) {l m : List α} (p : m.Perm l) (h : m.Pairwise (fun a b => lt b a = false)) : m = sortBy lt l := srt_uniq o (p.trans (sortBy_perm l).symm) h (sortBy_srt o l)
end
def ltI (a b : Int) : Bool := decide (a < b)
def ltII (a b : Int × Int) : Bool := decide (a.1 < b.1) || (decide (a.1 = b.1) && decide (a.2 < b.2))
theorem sto_I : Sto ltI := ⟨fun x => by simp [ltI], fun x y z h1 h2 => by simp [ltI] at *; omega, fun x y => by simp [ltI]; omega⟩
theorem sto_II : Sto ltII := by
  refine ⟨fun x => by simp [ltII], fun x y z h1 h2 => ?_, fun x y => ?_⟩
  · simp [ltII] at *
    omega
  · obtain ⟨a, b⟩ := x
    obtain ⟨c, d⟩ := y
    simp [ltII]
    omega
def twoD (p : Int × Int) : D := .tup [.int p.1, .int p.2]
def pairsOf : List D → Option (List (Int × Int))
  | [] => some []
  | .tup [.int i, .int j] :: r => (pairsOf r).map ((i, j) :: ·)
  | _ :: _ => none
theorem pairsOf_map (ps : List (Int × Int)) : pairsOf (ps.map twoD) = some ps := by
  induction ps with
  | nil => rfl
  | cons n ns ih =>
    rw [List.map_cons]
    show (pairsOf (ns.map twoD)).map _ = _
    rw [ih]
    rfl
theorem pairsOf_eq : ∀ {ds : List D} {ps : List (Int × Int)}, pairsOf ds = some ps → ds = ps.map twoD
  | [], _, h => by cases h; rfl
  | d :: r, ps, h => by
    unfold pairsOf at h
    split at h
    · rename_i e
      cases e
    · rename_i i j r' e
      cases e
      cases q : pairsOf r with
      | none => rw [q] at h; cases h
      | some ms =>
        rw [q] at h
        cases h
        rw [pairsOf_eq q]
        rfl
    · cases h
def fSorted : List D → R D
  | [.lst ds] => match intsOf ds with
    | some ns => .ok (.lst ((sortBy ltI ns).map D.int))
    | none => match pairsOf ds with
      | some ps => .ok (.lst ((sortBy ltII ps).map twoD))
      | none => .stuck
  | _ => .stuck
theorem RepL.perm {cl : Cl} {H : Hp} : ∀ {vs us : List V}, us.Perm vs → ∀ {ds : List D}, RepL cl H ds vs → ∃ es, es.Perm ds ∧ RepL cl H es us := by
  intro vs us p
  induction p with
  | nil => intro ds h; exact ⟨ds, List.Perm.refl _, h⟩
  | cons x p ih =>
    intro ds h
    cases h with
    | cons h1 h2 =>
      obtain ⟨es, q, r⟩ := ih h2
      exact ⟨_ :: es, List.Perm.cons _ q, .cons h1 r⟩
  | swap x y l =>
    intro ds h
    cases h with
    | cons h1 h2 =>
      cases h2 with
      | cons h2 h3 => exact ⟨_, List.Perm.swap _ _ _, .cons h2 (.cons h1 h3)⟩
  | trans p q ih1 ih2 =>
    intro ds h
    obtain ⟨es, q1, r1⟩ := ih2 h
    obtain ⟨fs, q2, r2⟩ := ih1 r1
    exact ⟨fs, q2.trans q1, r2⟩
def keyV (H : Hp) : V → Int × Int
  | .ref t => match H t with
    | some (.tup [.int i, .int j]) => (i, j)
    | _ => (0, 0)
  | _ => (0, 0)
theorem pair_key {cl : Cl} {Hs H : Hp} (e : Same Hs H) : ∀ {ps : List (Int × Int)} {vs : List V}, RepL cl Hs (ps.map twoD) vs → ps = vs.map (keyV H) ∧ ∀ x ∈ vs, ∃ t, x = V.ref t ∧ H t = some (.tup [.int (keyV H x).1, .int (keyV H x).2])
  | [], _, h => by cases h; exact ⟨rfl, fun x hx => nomatch hx⟩
  | p :: ps, _, h => by
    cases h with
    | cons h1 h2 =>
      obtain ⟨q1, q2⟩ := pair_key e h2
      cases h1 with
      | tup h3 h4 =>
        cases h4 with
        | cons h5 h6 =>
          cases h6 with
          | cons h7 h8 =>
            cases h8
            cases h5
            cases h7
            have h3' := e.at _ _ h3
            rename_i a
            have hk : keyV H (.ref a) = p := by
              unfold keyV
              show (match H a with
                | some (.tup [.int i, .int j]) => (i, j)
                | _ => (0, 0)) = p
              rw [h3']
            refine ⟨by rw [List.map_cons, hk, ← q1], fun x hx => ?_⟩
            rcases List.mem_cons.mp hx with z | z
            · subst z
              exact ⟨a, rfl, by rw [hk]; exact h3'⟩
            · exact q2 x z
theorem callv_sorted {X : Cx} : CallV X.K (fun vs H Q => rSortedI X.K vs H Q ∨ rSortedPO X.K vs H Q) (.own none) [false] fSorted := by
  intro cl Hs H ds vs Q W e a P
  obtain ⟨d, v, rfl, rfl, r⟩ := a.one
  cases d <;> first | exact P.elim | skip
  dsimp only [fSorted] at P
  split at P
  · rename_i ns q
    obtain ⟨p, rfl, h1⟩ := r.intsInv e q
    refine .inl ⟨p, ns, rfl, SqL.of h1, fun ns' p' pm pw hp => ?_⟩
    have z : ns' = sortBy ltI ns := sortBy_of sto_I pm (pw.imp fun {a b} h => by simp [ltI]; omega)
    rw [z]
    exact P.finL e hp (RepL.ofInts _)
  · split at P
    · rename_i ps q
      obtain ⟨p, xs, rfl, h1, r1⟩ := r.lstInv e
      rw [pairsOf_eq q] at r1
      obtain ⟨k1, k2⟩ := pair_key e r1
      refine .inr ⟨p, xs, keyV H, rfl, SqL.of h1, k2, fun ys p' st sb hp => ?_⟩
      obtain ⟨es, pe, re⟩ := RepL.perm sb.perm r1
      have hes : ∃ qs : List (Int × Int), es = qs.map twoD := by
        have : ∀ z ∈ es, ∃ q : Int × Int, z = twoD q := fun z hz => by
          obtain ⟨q, _, hq⟩ := List.mem_map.mp (pe.mem_iff.mp hz)
          exact ⟨q, hq.symm⟩
        clear pe re
        induction es with
        | nil => exact ⟨[], rfl⟩
        | cons z zs ih =>
          obtain ⟨q, hq⟩ := this z List.mem_cons_self
          obtain ⟨qs, hqs⟩ := ih fun z hz => this z (List.mem_cons_of_mem _ hz)
          exact ⟨q :: qs, by rw [hq, hqs]; rfl⟩
      obtain ⟨qs, rfl⟩ := hes
      obtain ⟨k3, k4⟩ := pair_key e re
      have z : qs = sortBy ltII ps := by
        refine sortBy_of sto_II ?_ ?_
        · rw [k1, k3]
          exact sb.perm.map _
        · rw [k3, List.pairwise_map]
          refine List.Pairwise.imp (fun {a b} h => ?_) st
          have h' := SrtO.lexB_no.mp h
          simp [ltII]
          omega
      rw [← z] at P
      exact P.finL e hp re
    · exact P.elim
end VL
end

noncomputable section
namespace VL
open PySem PySem.Spec PyProof.Rows L2

/-- the built-in names that no text here stores -/
structure Bl (mg : Str → Option Value) : Prop where
  len : mg "len" = none
  range : mg "range" = none
  min : mg "min" = none
  max : mg "max" = none
  abs : mg "abs" = none
  sum : mg "sum" = none
  all : mg "all" = none
  any : mg "any" = none
  sorted : mg "sorted" = none
  list : mg "list" = none
  tuple : mg "tuple" = none
  int : mg "int" = none
  bool : mg "bool" = none
  str : mg "str" = none
  isinstance : mg "isinstance" = none
  zip : mg "zip" = none
  enumerate : mg "enumerate" = none
  reversed : mg "reversed" = none
  set : mg "set" = none
  dict : mg "dict" = none
theorem _root_.L2.Room.units65 {k : Nat} {A : Around} (r : Room k A) : A.units + 65 < cLine := by have := r.un; omega
section
variable {X : Cx} {E : En} {kr : Kd} {fin : List Kd → Prop} {ks ks' ks1 : List Kd} {st : Stmt} {m : Sl → O} {a b c e e2 tg : Expr} {g g2 ga gb gc : Sl → R D} {pos p p2 : Pos} {md : Bool}
theorem ss_frzB {i : Nat} (h : SS X E kr fin ks st m ks1) (hk : ks1[i]? = some (.own none) := by rfl) : SS X E kr fin ks st m (ks1.set i .val) := by
  refine ⟨fun Hs H r σ W Dn tk S P => ?_⟩
  refine h.run _ _ _ _ _ _ tk S ?_
  cases q : m r with
  | nx r' =>
    rw [q] at P
    intro Hs' H' σ' S'
    obtain ⟨Hs2, S2⟩ := S'.freeze hk rfl
    exact P _ _ _ S2
  | stuck => rw [q] at P; exact P
  | rt d r' => rw [q] at P; exact P
  | exc x r' => rw [q] at P; exact P
@[simp] def mUnpack (t : Tg) (g : Sl → R D) : Sl → O := fun r => onR (g r) r fun d => (match t.un d with
  | .ok xs => .nx (setD r t.is xs)
  | _ => .stuck)
/-- a, b = e -/
theorem ss_unpack {t : Tg} (he : SE X E ks .val e g) (hg : SG X tg t) (hl : ∀ i ∈ t.is, i < ks.length) (hf : fin ks := by trivial) (hs : swapsWithSole [tg] e pos.line X.env = pure false := by rfl) (hw : swappedStores [tg] e X.env = pure none := by rfl)
    (h1 : (assignEach [tg] X.env).map (·.2) = [assign tg X.env] := by rfl) : SS X E kr fin ks (.Assign [tg] e pos) (mUnpack t g) (setK ks t.is) := by
  refine ⟨fun Hs H r σ W Dn tk S P => ?_⟩
  refine ws_of (ps_asg pe_we pg_wg hs hw h1) ?_
  refine he.run _ _ _ _ _ _ tk S (Post.ofS hf S P fun d v Hs' H' e1 g1 k1 P1 => ?_)
  cases q : t.un d with
  | stuck => rw [q] at P1; exact P1.elim
  | exc x => rw [q] at P1; exact P1.elim
  | ok xs =>
    rw [q] at P1
    exact hg.run E.cl Hs' H' σ d v xs _ g1.sub k1.rep q fun ys ry => P1 _ _ _ (StRel.puts (S.grow g1) hl (Tg.un_len q) ry)
/-- a slice of the script -/
@[simp] def dSlS (d : D) (lo hi : Option Int) : R D := match d with
  | .scr ns => .ok (.lst ((cutL ns lo hi).map D.int))
  | _ => .stuck
@[simp] def gSlS (ga : Sl → R D) (gl gh : Sl → R (Option Int)) : Sl → R D := fun r => do
  let d ← ga r
  let l ← gl r
  let h ← gh r
  dSlS d l h
theorem cutV_ints (ns : List Int) (lo hi : Option Int) : cutV (ns.map V.int) lo hi = (cutL ns lo hi).map V.int := by
  unfold cutV cutL
  rw [List.map_take, List.map_drop, List.length_map]
theorem se_slS {lo hi : Option Expr} {gl gh : Sl → R (Option Int)} (hK : E.cl.K = X.K) (ha : SE X E ks .bor a ga) (hl : SO X E ks lo gl) (hh : SO X E ks hi gh) : SE X E ks (.own none) (.Subscript a (.Slice lo hi none p2) pos) (gSlS ga gl gh) := by
  refine ⟨fun Hs H r σ W Q tk S P => ?_⟩
  refine we_of (pe_slice sl_list pe_we po_wo po_wo) ?_
  refine ha.run _ _ _ _ _ _ tk S (Post.imp (F := fun d => gl r >>= fun l => gh r >>= fun h => dSlS d l h) P fun d v Hs1 H1 e1 g1 k1 P1 => ?_)
  refine hl.run _ _ _ _ _ _ tk (S.grow g1) ?_
  cases q : gl r with
  | stuck => rw [q] at P1; exact P1
  | exc x => rw [q] at P1; exact P1
  | ok l =>
    rw [q] at P1
    intro Hs2 H2 g2
    refine hh.run _ _ _ _ _ _ tk ((S.grow g1).grow g2) ?_
    have P2 : Post E.cl (.own none) Hs2 H2 Q (fun c dd H' => W c dd σ H') (gh r >>= fun h => dSlS d l h) := Post.grow (r := gh r >>= fun h => dSlS d l h) P1 g2
    cases q2 : gh r with
    | stuck => rw [q2] at P2; exact P2
    | exc x => rw [q2] at P2; exact P2
    | ok h =>
      rw [q2] at P2
      intro Hs3 H3 g3
      have P3 : Post E.cl (.own none) Hs3 H3 Q (fun c dd H' => W c dd σ H') (dSlS d l h) := Post.grow (r := dSlS d l h) P2 g3
      cases d <;> first | exact P3.elim | skip
      have k3 := (k1.rb.grow g2).grow g3
      cases k3 with
      | val k =>
        cases k with
        | scr h1 =>
          rw [hK] at h1
          refine ⟨_, _, rfl, g3.sub.seq h1, fun q hq => ?_⟩
          rw [cutV_ints]
          exact P3.finL g3.sub hq (RepL.ofInts _)
@[simp] def dRev : D → R D
  | .lst ds => .ok (.lst ds.reverse)
  | _ => .stuck
theorem se_revL {k : Nat} {p1 p3 : Pos} (ha : SE X E ks .bor a ga) : SE X E ks (.own none) (.Subscript a (.Slice none none (some (.UnaryOp .USub (.Constant (.int 1) k p1) p2)) p3) pos) (gUn dRev ga) := by
  refine ⟨fun Hs H r σ W Q tk S P => ?_⟩
  refine we_of (pe_revL pe_we) ?_
  refine ha.run _ _ _ _ _ _ tk S (P.imp fun d v Hs1 H1 e1 g1 k1 P1 => ?_)
  cases d <;> first | exact P1.elim | skip
  obtain ⟨q, xs, rfl, h1, r1⟩ := k1.rb.lstInv g1.sub
  exact ⟨q, xs, rfl, SqL.of h1, fun l hl => P1.finL g1.sub hl r1.rev⟩
/-! a < b < c -/
@[simp] def gChain (f f' : D → D → R D) (ga gb gc : Sl → R D) : Sl → R D := fun r => do
  let a ← ga r
  let b ← gb r
  let z ← f a b
  let k ← asB z
  if k then (do
    let c ← gc r
    f' b c) else .ok (.bl false)
theorem chain_read {rr rr' : R2} {f f' : D → D → R D} (hv : OpV X.K rr .val f) (nx : NoX f) (hv' : OpV X.K rr' .val f') (nx' : NoX f') (ha : SE X E ks .bor a ga) (hb : SE X E ks .bor b gb) (hc : SE X E ks .bor c gc)
    {Hs H : Hp} {r : Sl} {σ : L2.St} {W : WX} {Q : VK} (tk : Takes X W) (S : StRel E Hs H ks r σ) (P : Post E.cl .val Hs H Q (fun c dd H' => W c dd σ H') (gChain f f' ga gb gc r)) : tChain rr rr' (WEx X a) (WEx X b) (WEx X c) σ H Q := by
  refine ha.run _ _ _ _ _ _ tk S (Post.imp (F := fun a => gb r >>= fun b => f a b >>= fun z => asB z >>= fun k => if k then (gc r >>= fun c => f' b c) else .ok (.bl false)) P fun d v Hs1 H1 e1 g1 k1 P1 => ?_)
  refine hb.run _ _ _ _ _ _ tk (S.grow g1) (Post.imp (F := fun b => f d b >>= fun z => asB z >>= fun k => if k then (gc r >>= fun c => f' b c) else .ok (.bl false)) P1 fun d2 v2 Hs2 H2 e2 g2 k2 P2 => ?_)
  refine hv _ _ _ _ _ _ _ _ _ g2.sub (k1.rb.grow g2) k2.rb (Post.imp (F := fun z => asB z >>= fun k => if k then (gc r >>= fun c => f' d2 c) else .ok (.bl false)) P2 fun d3 v3 Hs3 H3 e3 g3 k3 P3 => ?_) (nx _ _)
  cases d3 <;> first | exact P3.elim | skip
  rename_i k
  have rp := k3.rep
  cases rp
  refine ⟨k, rfl, ?_⟩
  cases k with
  | true =>
    refine iteT ?_
    refine hc.run _ _ _ _ _ _ tk (((S.grow g1).grow g2).grow g3) (Post.imp (F := fun c => f' d2 c) P3 fun d4 v4 Hs4 H4 e4 g4 k4 P4 => ?_)
    exact hv' _ _ _ _ _ _ _ _ _ g4.sub ((k2.rb.grow g3).grow g4) k4.rb P4 (nx' _ _)
  | false => exact iteF (Post.finV P3 g3.sub (.bl false))
theorem se_chain {op op' : CmpOp} {rr rr' : R2} {f f' : D → D → R D} (ho : OpR X (compareOp op) rr) (hv : OpV X.K rr .val f) (nx : NoX f) (ho' : OpR X (compareOp op') rr') (hv' : OpV X.K rr' .val f') (nx' : NoX f') (ha : SE X E ks .bor a ga) (hb : SE X E ks .bor b gb) (hc : SE X E ks .bor c gc) (hm : lastMarks [op, op'] [b, c] = false := by with_unfolding_all rfl) :
    SE X E ks .val (.Compare a [op, op'] [b, c] pos) (gChain f f' ga gb gc) := ⟨fun Hs H r σ W Q tk S P => we_of (pe_chain ho ho' pe_we pe_we pe_we hm) (chain_read hv nx hv' nx' ha hb hc tk S P)⟩
theorem st_chain {op op' : CmpOp} {rr rr' : R2} {f f' : D → D → R D} (ho : OpR X (compareOp op) rr) (hv : OpV X.K rr .val f) (nx : NoX f) (ho' : OpR X (compareOp op') rr') (hv' : OpV X.K rr' .val f') (nx' : NoX f') (ha : SE X E ks .bor a ga) (hb : SE X E ks .bor b gb) (hc : SE X E ks .bor c gc) (hm : lastMarks [op, op'] [b, c] = false := by with_unfolding_all rfl) :
    ST X E ks (.Compare a [op, op'] [b, c] pos) (gTest (gChain f f' ga gb gc)) := by
  refine ⟨fun Hs H r σ W Q tk S P => ?_⟩
  refine wt_of (pt_chain ho ho' pe_we pe_we pe_we hm) ?_
  refine chain_read hv nx hv' nx' ha hb hc tk S (Post.ofT P fun d v Hs' H' e1 g1 k1 P1 => ?_)
  cases d <;> first | exact P1.elim | skip
  have rp := k1.rep
  cases rp
  exact ⟨_, rfl, P1 Hs' H' (Grow.refl g1.sub)⟩
end

section
variable {X : Cx} {E : En} {ks : List Kd} {e : Expr} {es : List Expr} {t : Sl → R (List D)} {p pos : Pos}
theorem sf_Len (B : Bl X.mg) (ha : SA X E ks [false] (e :: es) t) (hc : X.calm = true := by rfl) (hg : Gl X "len" := by rfl) (he : starEach (e :: es) X.env = (false, eval e X.env) :: starEach es X.env := by rfl) (hpl : (backTo pos (starEach es X.env)).any (·.1) = false := by rfl) : SE X E ks (.val) (.Call (.Name "len" p) (e :: es) [] pos) (gCall fLen t) :=
  se_callB (call_len.or call_lenR) callv_len B.len bb_len ha hg bn_len bd_len he hpl
theorem sf_Min2 (B : Bl X.mg) (ha : SA X E ks [false, false] (e :: es) t) (hc : X.calm = true := by rfl) (hg : Gl X "min" := by rfl) (he : starEach (e :: es) X.env = (false, eval e X.env) :: starEach es X.env := by rfl) (hpl : (backTo pos (starEach es X.env)).any (·.1) = false := by rfl) : SE X E ks (.val) (.Call (.Name "min" p) (e :: es) [] pos) (gCall fMin2 t) :=
  se_callB (call_min2 hc) callv_min2 B.min bb_min ha hg bn_min bd_min he hpl
theorem sf_Max2 (B : Bl X.mg) (ha : SA X E ks [false, false] (e :: es) t) (hc : X.calm = true := by rfl) (hg : Gl X "max" := by rfl) (he : starEach (e :: es) X.env = (false, eval e X.env) :: starEach es X.env := by rfl) (hpl : (backTo pos (starEach es X.env)).any (·.1) = false := by rfl) : SE X E ks (.val) (.Call (.Name "max" p) (e :: es) [] pos) (gCall fMax2 t) :=
  se_callB (call_max2 hc) callv_max2 B.max bb_max ha hg bn_max bd_max he hpl
theorem sf_Min1 (B : Bl X.mg) (ha : SA X E ks [false] (e :: es) t) (hc : X.calm = true := by rfl) (hg : Gl X "min" := by rfl) (he : starEach (e :: es) X.env = (false, eval e X.env) :: starEach es X.env := by rfl) (hpl : (backTo pos (starEach es X.env)).any (·.1) = false := by rfl) : SE X E ks (.val) (.Call (.Name "min" p) (e :: es) [] pos) (gCall fMin1 t) :=
  se_callB (cr_min hc) callv_min1 B.min bb_min ha hg bn_min bd_min he hpl
theorem sf_Max1 (B : Bl X.mg) (ha : SA X E ks [false] (e :: es) t) (hc : X.calm = true := by rfl) (hg : Gl X "max" := by rfl) (he : starEach (e :: es) X.env = (false, eval e X.env) :: starEach es X.env := by rfl) (hpl : (backTo pos (starEach es X.env)).any (·.1) = false := by rfl) : SE X E ks (.val) (.Call (.Name "max" p) (e :: es) [] pos) (gCall fMax1 t) :=
  se_callB (cr_max hc) callv_max1 B.max bb_max ha hg bn_max bd_max he hpl
theorem sf_Abs (B : Bl X.mg) (ha : SA X E ks [false] (e :: es) t) (hc : X.calm = true := by rfl) (hg : Gl X "abs" := by rfl) (he : starEach (e :: es) X.env = (false, eval e X.env) :: starEach es X.env := by rfl) (hpl : (backTo pos (starEach es X.env)).any (·.1) = false := by rfl) : SE X E ks (.val) (.Call (.Name "abs" p) (e :: es) [] pos) (gCall fAbs t) :=
  se_callB call_abs callv_abs B.abs bb_abs ha hg bn_abs bd_abs he hpl
theorem sf_Sum (B : Bl X.mg) (ha : SA X E ks [false] (e :: es) t) (hc : X.calm = true := by rfl) (hg : Gl X "sum" := by rfl) (he : starEach (e :: es) X.env = (false, eval e X.env) :: starEach es X.env := by rfl) (hpl : (backTo pos (starEach es X.env)).any (·.1) = false := by rfl) : SE X E ks (.val) (.Call (.Name "sum" p) (e :: es) [] pos) (gCall fSum t) :=
  se_callB (cr_sum hc) callv_sum B.sum bb_sum ha hg bn_sum bd_sum he hpl
theorem sf_All (B : Bl X.mg) (ha : SA X E ks [false] (e :: es) t) (hc : X.calm = true := by rfl) (hg : Gl X "all" := by rfl) (he : starEach (e :: es) X.env = (false, eval e X.env) :: starEach es X.env := by rfl) (hpl : (backTo pos (starEach es X.env)).any (·.1) = false := by rfl) : SE X E ks (.val) (.Call (.Name "all" p) (e :: es) [] pos) (gCall fAll t) :=
  se_callB (cr_all hc) callv_all B.all bb_all ha hg bn_all bd_all he hpl
theorem sf_Any (B : Bl X.mg) (ha : SA X E ks [false] (e :: es) t) (hc : X.calm = true := by rfl) (hg : Gl X "any" := by rfl) (he : starEach (e :: es) X.env = (false, eval e X.env) :: starEach es X.env := by rfl) (hpl : (backTo pos (starEach es X.env)).any (·.1) = false := by rfl) : SE X E ks (.val) (.Call (.Name "any" p) (e :: es) [] pos) (gCall fAny t) :=
  se_callB (cr_any hc) callv_any B.any bb_any ha hg bn_any bd_any he hpl
theorem sf_Sorted (B : Bl X.mg) (ha : SA X E ks [false] (e :: es) t) (hc : X.calm = true := by rfl) (hg : Gl X "sorted" := by rfl) (he : starEach (e :: es) X.env = (false, eval e X.env) :: starEach es X.env := by rfl) (hpl : (backTo pos (starEach es X.env)).any (·.1) = false := by rfl) : SE X E ks (.own none) (.Call (.Name "sorted" p) (e :: es) [] pos) (gCall fSorted t) :=
  se_callB (cr_sortedI.or cr_sortedPO) callv_sorted B.sorted bb_sorted ha hg bn_sorted bd_sorted he hpl
theorem sf_List (B : Bl X.mg) (ha : SA X E ks [false] (e :: es) t) (hc : X.calm = true := by rfl) (hg : Gl X "list" := by rfl) (he : starEach (e :: es) X.env = (false, eval e X.env) :: starEach es X.env := by rfl) (hpl : (backTo pos (starEach es X.env)).any (·.1) = false := by rfl) : SE X E ks (.own none) (.Call (.Name "list" p) (e :: es) [] pos) (gCall fList t) :=
  se_callTy call_list_of callv_list B.list bb_list ha hg bn_list bd_list he hpl
theorem sf_Tuple (B : Bl X.mg) (ha : SA X E ks [false] (e :: es) t) (hc : X.calm = true := by rfl) (hg : Gl X "tuple" := by rfl) (he : starEach (e :: es) X.env = (false, eval e X.env) :: starEach es X.env := by rfl) (hpl : (backTo pos (starEach es X.env)).any (·.1) = false := by rfl) : SE X E ks (.val) (.Call (.Name "tuple" p) (e :: es) [] pos) (gCall fTuple t) :=
  se_callTy call_tuple_of callv_tuple B.tuple bb_tuple ha hg bn_tuple bd_tuple he hpl
theorem sf_Int (B : Bl X.mg) (ha : SA X E ks [false] (e :: es) t) (hc : X.calm = true := by rfl) (hg : Gl X "int" := by rfl) (he : starEach (e :: es) X.env = (false, eval e X.env) :: starEach es X.env := by rfl) (hpl : (backTo pos (starEach es X.env)).any (·.1) = false := by rfl) : SE X E ks (.val) (.Call (.Name "int" p) (e :: es) [] pos) (gCall fInt t) :=
  se_callTy (call_int1.or call_int_str) callv_int B.int bb_int ha hg bn_int bd_int he hpl
theorem si_list {p1 p2 : Pos} {g : Sl → R D} (B : Bl X.mg) (he : SE X E ks .bor e g) (hg : Gl X "isinstance" := by rfl) (hgT : Gl X "list" := by rfl) (hs : starEach [e, .Name "list" p2] X.env = (false, eval e X.env) :: starEach [.Name "list" p2] X.env := by rfl) (hs2 : starEach [.Name "list" p2] X.env = (false, eval (.Name "list" p2) X.env) :: starEach [] X.env := by rfl) (hpl : (backTo pos (starEach [.Name "list" p2] X.env)).any (·.1) = false := by rfl) :
    SE X E ks .val (.Call (.Name "isinstance" p1) [e, .Name "list" p2] [] pos) (gUn (dIs .list) g) := se_isi .list he B.isinstance B.list bb_list bn_list bd_list hg hgT hs hs2 hpl
theorem si_tuple {p1 p2 : Pos} {g : Sl → R D} (B : Bl X.mg) (he : SE X E ks .bor e g) (hg : Gl X "isinstance" := by rfl) (hgT : Gl X "tuple" := by rfl) (hs : starEach [e, .Name "tuple" p2] X.env = (false, eval e X.env) :: starEach [.Name "tuple" p2] X.env := by rfl) (hs2 : starEach [.Name "tuple" p2] X.env = (false, eval (.Name "tuple" p2) X.env) :: starEach [] X.env := by rfl) (hpl : (backTo pos (starEach [.Name "tuple" p2] X.env)).any (·.1) = false := by rfl) :
    SE X E ks .val (.Call (.Name "isinstance" p1) [e, .Name "tuple" p2] [] pos) (gUn (dIs .tuple) g) := se_isi .tuple he B.isinstance B.tuple bb_tuple bn_tuple bd_tuple hg hgT hs hs2 hpl
theorem si_bool {p1 p2 : Pos} {g : Sl → R D} (B : Bl X.mg) (he : SE X E ks .bor e g) (hg : Gl X "isinstance" := by rfl) (hgT : Gl X "bool" := by rfl) (hs : starEach [e, .Name "bool" p2] X.env = (false, eval e X.env) :: starEach [.Name "bool" p2] X.env := by rfl) (hs2 : starEach [.Name "bool" p2] X.env = (false, eval (.Name "bool" p2) X.env) :: starEach [] X.env := by rfl) (hpl : (backTo pos (starEach [.Name "bool" p2] X.env)).any (·.1) = false := by rfl) :
    SE X E ks .val (.Call (.Name "isinstance" p1) [e, .Name "bool" p2] [] pos) (gUn (dIs .bool) g) := se_isi .bool he B.isinstance B.bool bb_bool bn_bool bd_bool hg hgT hs hs2 hpl
theorem si_str {p1 p2 : Pos} {g : Sl → R D} (B : Bl X.mg) (he : SE X E ks .bor e g) (hg : Gl X "isinstance" := by rfl) (hgT : Gl X "str" := by rfl) (hs : starEach [e, .Name "str" p2] X.env = (false, eval e X.env) :: starEach [.Name "str" p2] X.env := by rfl) (hs2 : starEach [.Name "str" p2] X.env = (false, eval (.Name "str" p2) X.env) :: starEach [] X.env := by rfl) (hpl : (backTo pos (starEach [.Name "str" p2] X.env)).any (·.1) = false := by rfl) :
    SE X E ks .val (.Call (.Name "isinstance" p1) [e, .Name "str" p2] [] pos) (gUn (dIs .str) g) := se_isi .str he B.isinstance B.str bb_str bn_str bd_str hg hgT hs hs2 hpl
theorem si_int {p1 p2 : Pos} {g : Sl → R D} (B : Bl X.mg) (he : SE X E ks .bor e g) (hg : Gl X "isinstance" := by rfl) (hgT : Gl X "int" := by rfl) (hs : starEach [e, .Name "int" p2] X.env = (false, eval e X.env) :: starEach [.Name "int" p2] X.env := by rfl) (hs2 : starEach [.Name "int" p2] X.env = (false, eval (.Name "int" p2) X.env) :: starEach [] X.env := by rfl) (hpl : (backTo pos (starEach [.Name "int" p2] X.env)).any (·.1) = false := by rfl) :
    SE X E ks .val (.Call (.Name "isinstance" p1) [e, .Name "int" p2] [] pos) (gUn (dIs .int) g) := se_isi .int he B.isinstance B.int bb_int bn_int bd_int hg hgT hs hs2 hpl
end
/-- how often a while may turn here -/
def WB : Nat := Classical.choose (oN_ex 100000)
theorem WB_eq : WB = 100000 := Classical.choose_spec (oN_ex 100000)
theorem fi_stuck {P : Program} {w : World} {K : PySem.W.Frag} {mg : Str → Option Value} {base : Heap} {cl : Cl} {x : Str} {k : Nat} {bs : List Bool} {kr : Kd} {fa : Addr} {fd : FuncData} {ps : List Str} (gm : mg x = some (.ref fa)) (kp : PySem.W.keepIn K (.ref fa) = true) (bn : Binds K fd ps []) :
    Fi P w K mg base cl x k bs kr (fun _ => .stuck) :=
  ⟨fa, fd, ps, ⟨fun vs H Q E ⟨ds, Hs, _, _, z⟩ => z.elim, fun A outer s H args us vs Q E _ _ _ _ ⟨ds, Hs, _, _, z⟩ => z.elim⟩, gm, kp, bn⟩
end VL
end

noncomputable section
namespace VL
open PySem PySem.Spec PyProof.Rows L2

/-! ### plain laws of the loops -/
theorem forL_inv (I : Nat → Sl → Prop) {t : Tg} {mb : Sl → O} : ∀ {ds : List D} {r : Sl} (n : Nat), I n r → (∀ i d, ds[i]? = some d → ∀ r, I (n + i) r → ∃ xs r', t.un d = .ok xs ∧ mb (setD r t.is xs) = .nx r' ∧ I (n + i + 1) r') → ∃ r', forL t mb ds r = .nx r' ∧ I (n + ds.length) r'
  | [], r, n, h, _ => ⟨r, rfl, h⟩
  | d :: ds, r, n, h, st => by
    obtain ⟨xs, r', e1, e2, h'⟩ := st 0 d rfl r h
    obtain ⟨r'', e3, h''⟩ := forL_inv I (ds := ds) (r := r') (n + 1) h' fun i d' hd r2 h2 => by
      have q := st (i + 1) d' (by simpa using hd) r2 (by rw [show n + (i + 1) = n + 1 + i by omega]; exact h2)
      rw [show n + (i + 1) + 1 = n + 1 + i + 1 by omega] at q
      exact q
    refine ⟨r'', ?_, by rw [List.length_cons, show n + (ds.length + 1) = n + 1 + ds.length by omega]; exact h''⟩
    show (match t.un d with
      | .ok xs => (match mb (setD r t.is xs) with
        | .nx r' => forL t mb ds r'
        | o => o)
      | _ => .stuck) = _
    rw [e1]
    dsimp only
    rw [e2]
    exact e3
/-- a loop that keeps a word -/
theorem forL_keep (I : Sl → Prop) {t : Tg} {mb : Sl → O} {ds : List D} {r : Sl} (h : I r) (st : ∀ d, d ∈ ds → ∀ r, I r → ∃ xs r', t.un d = .ok xs ∧ mb (setD r t.is xs) = .nx r' ∧ I r') : ∃ r', forL t mb ds r = .nx r' ∧ I r' := by
  obtain ⟨r', e, h'⟩ := forL_inv (fun _ => I) (t := t) (mb := mb) (ds := ds) (r := r) 0 h fun i d hd r2 h2 => st d (List.mem_of_getElem? hd) r2 h2
  exact ⟨r', e, h'⟩
theorem whileL_inv (I : Sl → Prop) (μ : Sl → Nat) {tc : Sl → R Bool} {mb : Sl → O} (st : ∀ r, I r → ∃ b, tc r = .ok b ∧ (b = true → ∃ r', mb r = .nx r' ∧ I r' ∧ μ r' < μ r)) : ∀ (n : Nat) (r : Sl), I r → μ r < n → ∃ r', whileL tc mb n r = .nx r' ∧ I r' ∧ tc r' = .ok false
  | 0, r, _, h => absurd h (Nat.not_lt_zero _)
  | n + 1, r, hi, h => by
    obtain ⟨b, e, k⟩ := st r hi
    cases b with
    | false =>
      refine ⟨r, ?_, hi, e⟩
      unfold whileL
      rw [e]
      rfl
    | true =>
      obtain ⟨r', e2, hi', hm⟩ := k rfl
      obtain ⟨r'', e3, h3, h4⟩ := whileL_inv I μ st n r' hi' (by omega)
      refine ⟨r'', ?_, h3, h4⟩
      unfold whileL
      rw [e]
      show (match mb r with
        | .nx r' => whileL tc mb n r'
        | o => o) = _
      rw [e2]
      exact e3
/-- a comprehension over what is walked -/
theorem mapR_map {α β γ : Type} {f : α → R β} {l : List γ} {F : γ → α} {G : γ → β} (h : ∀ x ∈ l, f (F x) = .ok (G x)) : mapR f (l.map F) = .ok (l.map G) := by
  induction l with
  | nil => rfl
  | cons x l ih =>
    rw [List.map_cons]
    unfold mapR
    rw [h x List.mem_cons_self, ih fun y hy => h y (List.mem_cons_of_mem _ hy)]
    rfl
theorem gComp_map {γ : Type} {gi : Sl → R (List D)} {t : Tg} {vs : List Nat} {tt : Sl → R Bool} {ge : Sl → R D} {r : Sl} {l : List γ} {F : γ → D} {G : γ → D} (h : gi r = .ok (l.map F)) (hg : ∀ x ∈ l, gTurn t vs tt ge r (F x) = .ok (some (G x))) : gComp gi t vs tt ge r = .ok (.lst (l.map G)) := by
  unfold gComp
  rw [h]
  show (noX (mapR (gTurn t vs tt ge r) (l.map F)) >>= fun os => R.ok (D.lst (os.filterMap id))) = _
  rw [mapR_map (G := fun x => some (G x)) hg]
  show R.ok (D.lst ((l.map fun x => some (G x)).filterMap id)) = _
  rw [List.filterMap_map]
  congr 2
  induction l with
  | nil => rfl
  | cons x l ih =>
    rw [List.map_cons, List.filterMap_cons]
    simp
theorem gComp_filter {γ : Type} {gi : Sl → R (List D)} {t : Tg} {vs : List Nat} {tt : Sl → R Bool} {ge : Sl → R D} {r : Sl} {l : List γ} {F : γ → D} {p : γ → Bool} {G : γ → D} (h : gi r = .ok (l.map F)) (hg : ∀ x ∈ l, gTurn t vs tt ge r (F x) = .ok (if p x then some (G x) else none)) : gComp gi t vs tt ge r = .ok (.lst ((l.filter p).map G)) := by
  unfold gComp
  rw [h]
  show (noX (mapR (gTurn t vs tt ge r) (l.map F)) >>= fun os => R.ok (D.lst (os.filterMap id))) = _
  rw [mapR_map (G := fun x => if p x then some (G x) else none) hg]
  show R.ok (D.lst ((l.map fun x => if p x then some (G x) else none).filterMap id)) = _
  rw [List.filterMap_map]
  congr 2
  clear h hg
  induction l with
  | nil => rfl
  | cons x l ih =>
    rw [List.filterMap_cons, List.filter_cons]
    cases q : p x <;> simpa [q, Function.comp_def] using ih

/-! ### counted loops, products, powers -/
@[simp] theorem lt_n30 {k : Nat} (h : k < 1073741824) : k < n30 := by rw [n30_val]; exact h
@[simp] theorem lt_n64 {k : Nat} (h : k < 18446744073709551616) : k < n64 := by rw [n64_val]; exact h
@[simp] theorem le_iMil {k : Int} (h : k ≤ 1000000) : k ≤ iMil := by rw [iMil_val]; exact h
@[simp] theorem le_szL' {k : Nat} (h : k ≤ 16777216) : k ≤ szL := le_szL h
@[simp] theorem lt_szL' {k : Nat} (h : k < 16777216) : k < szL := lt_szL h
theorem mulOk_left {a b : Int} (h1 : -(2 ^ 64) < a) (h2 : a < 2 ^ 64) : mulOk a b = true := by
  unfold mulOk
  rw [i64_val, decide_eq_true h1, decide_eq_true h2]
  rfl
theorem mulOk_right {a b : Int} (h1 : -(2 ^ 64) < b) (h2 : b < 2 ^ 64) : mulOk a b = true := by
  unfold mulOk
  rw [i64_val, decide_eq_true h1, decide_eq_true h2]
  cases (decide (-(2 ^ 64) < a) && decide (a < 2 ^ 64)) <;> rfl
theorem mulOk_wide {a b : Int} (h1 : a.natAbs < 2 ^ 2000) (h2 : b.natAbs < 2 ^ 2000) : mulOk a b = true := by
  unfold mulOk wideOk
  rw [w600_val, decide_eq_true h1, decide_eq_true h2]
  simp
theorem fmod_pos {a b : Int} (hb : 0 < b) : 0 ≤ a.fmod b ∧ a.fmod b < b := ⟨Int.fmod_nonneg_of_pos a hb, Int.fmod_lt_of_pos a hb⟩
theorem dMul_ok {a b : Int} (h : mulOk a b = true) : dMul (.int a) (.int b) = .ok (.int (a * b)) := by
  dsimp only [dMul]
  rw [if_pos h]
theorem dFdiv_ok {a b : Int} (h1 : b ≠ 0) (h2 : b.natAbs < 1073741824) : dFdiv (.int a) (.int b) = .ok (.int (a.fdiv b)) := by
  dsimp only [dFdiv]
  rw [if_pos (.inl ⟨h1, by rw [n30_val]; exact h2⟩)]
theorem dPow_ok {a : Int} {k : Nat} (h1 : k ≤ 1000000) (h2 : a.natAbs < 2 ^ 64) : dPow (.int a) (.int k) = .ok (.int (a ^ k)) := by
  dsimp only [dPow]
  rw [if_pos ⟨Int.natCast_nonneg k, by rw [iMil_val]; omega, by rw [n64_val]; exact h2⟩, Int.toNat_natCast]
theorem dRange1_nat {n : Nat} (h : n ≤ 16777216) : dRange1 (.int (n : Int)) = .ok ((List.range n).map fun (i : Nat) => D.int i) := by
  dsimp only [dRange1]
  rw [if_pos (by rw [Int.toNat_natCast, szL_val]; exact h)]
  unfold rangeD
  rw [Int.toNat_natCast]
  simp
theorem dRange1_neg {i : Int} (h : i ≤ 0) : dRange1 (.int i) = .ok [] := by
  dsimp only [dRange1]
  rw [if_pos (by rw [szL_val]; omega), show i.toNat = 0 by omega]
  rfl
theorem dRange2_nat {a n : Nat} (h : a + n ≤ 16777216) : dRange2 (.int (a : Int)) (.int ((a + n : Nat) : Int)) = .ok ((List.range' a n).map fun (i : Nat) => D.int i) := by
  dsimp only [dRange2]
  rw [if_pos (by rw [szL_val]; omega), show (((a + n : Nat) : Int) - (a : Int)).toNat = n by omega]
  unfold rangeD
  rw [List.range'_eq_map_range]
  simp
theorem range_split (n : Nat) : List.range n = List.range' 0 n := List.range_eq_range'
theorem seq_nx {m1 m2 : Sl → O} {r r' : Sl} (h : m1 r = .nx r') : mSeq m1 m2 r = m2 r' := by
  unfold mSeq
  rw [h]
theorem seq_rt {m1 m2 : Sl → O} {r r' : Sl} {d : D} (h : m1 r = .rt d r') : mSeq m1 m2 r = .rt d r' := by
  unfold mSeq
  rw [h]

/-! ### slices -/
theorem cutL_from {α : Type} {xs : List α} {k : Nat} (h : k ≤ xs.length) {i : Int} (hi : i = (k : Int) := by rfl) : cutL xs (some i) none = xs.drop k := by
  subst hi
  unfold cutL
  rw [HT.sIx_nat, HT.sIx_none, Nat.min_eq_left h, List.take_of_length_le (by rw [List.length_drop]; omega)]
theorem cutL_to {α : Type} {xs : List α} {k : Nat} {i : Int} (hi : i = (k : Int) := by rfl) : cutL xs none (some i) = xs.take k := by
  subst hi
  unfold cutL
  rw [HT.sIx_nat, HT.sIx_none, List.drop_zero, Nat.sub_zero]
  rcases Nat.le_total k xs.length with h | h
  · rw [Nat.min_eq_left h]
  · rw [Nat.min_eq_right h, List.take_length, List.take_of_length_le h]
theorem cutL_all {α : Type} {xs : List α} : cutL xs none none = xs := by
  unfold cutL
  rw [HT.sIx_none, HT.sIx_none, List.drop_zero, Nat.sub_zero, List.take_length]
theorem cutL_mid {α : Type} {xs : List α} {a b : Nat} (h : a ≤ b) (hb : b ≤ xs.length) {i j : Int} (hi : i = (a : Int) := by rfl) (hj : j = (b : Int) := by rfl) : cutL xs (some i) (some j) = (xs.drop a).take (b - a) := by
  subst hi hj
  unfold cutL
  rw [HT.sIx_nat, HT.sIx_nat, Nat.min_eq_left hb, Nat.min_eq_left (Nat.le_trans h hb)]

/-! ### == of plain data -/
theorem shp_int (i : Int) : shp (.int i) = true := rfl
theorem shp_bl (b : Bool) : shp (.bl b) = true := rfl
theorem shp_non : shp .non = true := rfl
@[simp] theorem dEq_int (a b : Int) : dEq (.int a) (.int b) = .ok (.bl (a == b)) := rfl
@[simp] theorem dNe_int (a b : Int) : dNe (.int a) (.int b) = .ok (.bl (!(a == b))) := rfl
@[simp] theorem dEq_bl (a b : Bool) : dEq (.bl a) (.bl b) = .ok (.bl (a == b)) := rfl
@[simp] theorem dNe_bl (a b : Bool) : dNe (.bl a) (.bl b) = .ok (.bl (!(a == b))) := rfl
/-- what is plain data of a depth below n -/
def pl : Nat → D → Bool
  | 0, _ => false
  | n + 1, .lst xs => xs.all (pl n) && decide (xs.length ≤ szL)
  | n + 1, .tup xs => xs.all (pl n) && decide (xs.length ≤ szL)
  | _ + 1, .str x => (PyData.str x).canLay0 && decide (x.length ≤ szL)
  | _ + 1, .dct _ => false
  | _ + 1, .obj _ _ => false
  | _ + 1, .scr _ => false
  | _ + 1, _ => true
theorem toPys_lay : ∀ {ds : List D}, (∀ d ∈ ds, (toPy d).canLay0 = true) → PyData.canLayAll0 (toPys ds) = true
  | [], _ => rfl
  | d :: ds, h => by
    show ((toPy d).canLay0 && PyData.canLayAll0 (toPys ds)) = true
    rw [h d List.mem_cons_self, toPys_lay fun x hx => h x (List.mem_cons_of_mem _ hx)]
    rfl
theorem toPys_depth {n : Nat} : ∀ {ds : List D}, (∀ d ∈ ds, (toPy d).depth ≤ n) → PyData.depthAll (toPys ds) ≤ n
  | [], _ => Nat.zero_le _
  | d :: ds, h => by
    show max (toPy d).depth (PyData.depthAll (toPys ds)) ≤ n
    exact Nat.max_le.mpr ⟨h d List.mem_cons_self, toPys_depth fun x hx => h x (List.mem_cons_of_mem _ hx)⟩
theorem pl_lay : ∀ (n : Nat) (d : D), pl n d = true → (toPy d).canLay0 = true ∧ (toPy d).depth ≤ n
  | 0, _, h => by cases h
  | n + 1, .lst xs, h => by
    have h' : xs.all (pl n) = true := by
      have q : (xs.all (pl n) && decide (xs.length ≤ szL)) = true := h
      exact (Bool.and_eq_true_iff.mp q).1
    have k : ∀ d ∈ xs, (toPy d).canLay0 = true ∧ (toPy d).depth ≤ n := fun d hd => pl_lay n d (List.all_eq_true.mp h' d hd)
    exact ⟨toPys_lay fun d hd => (k d hd).1, Nat.succ_le_succ (toPys_depth fun d hd => (k d hd).2)⟩
  | n + 1, .tup xs, h => by
    have h' : xs.all (pl n) = true := by
      have q : (xs.all (pl n) && decide (xs.length ≤ szL)) = true := h
      exact (Bool.and_eq_true_iff.mp q).1
    have k : ∀ d ∈ xs, (toPy d).canLay0 = true ∧ (toPy d).depth ≤ n := fun d hd => pl_lay n d (List.all_eq_true.mp h' d hd)
    exact ⟨toPys_lay fun d hd => (k d hd).1, Nat.succ_le_succ (toPys_depth fun d hd => (k d hd).2)⟩
  | _ + 1, .str x, h => by
    have q : ((PyData.str x).canLay0 && decide (x.length ≤ szL)) = true := h
    exact ⟨(Bool.and_eq_true_iff.mp q).1, Nat.zero_le _⟩
  | _ + 1, .dct _, h => by cases h
  | _ + 1, .obj _ _, h => by cases h
  | _ + 1, .scr _, h => by cases h
  | _ + 1, .non, _ => ⟨rfl, Nat.zero_le _⟩
  | _ + 1, .bl _, _ => ⟨rfl, Nat.zero_le _⟩
  | _ + 1, .int _, _ => ⟨rfl, Nat.zero_le _⟩
theorem pl_shp {n : Nat} {d : D} (hn : n ≤ 64) (h : pl n d = true) : shp d = true := by
  obtain ⟨a, b⟩ := pl_lay n d h
  unfold shp SeqAt.shaped
  rw [a, decide_eq_true (Nat.le_trans b hn)]
  rfl
mutual
theorem eqv_self : ∀ (d : D), (toPy d).canLay0 = true → PyData.eqv (toPy d) (toPy d) = true
  | .non, _ => rfl
  | .bl b, _ => by show (b == b) = true; simp
  | .int i, _ => by show (i == i) = true; simp
  | .str x, _ => by show (x == x) = true; simp
  | .lst xs, h => eqvAll_self xs h
  | .tup xs, h => eqvAll_self xs h
  | .dct _, h => by cases h
  | .obj _ _, h => by cases h
  | .scr _, h => by cases h
theorem eqvAll_self : ∀ (ds : List D), PyData.canLayAll0 (toPys ds) = true → PyData.eqvAll (toPys ds) (toPys ds) = true
  | [], _ => rfl
  | d :: ds, h => by
    have q : ((toPy d).canLay0 && PyData.canLayAll0 (toPys ds)) = true := h
    obtain ⟨a, b⟩ := Bool.and_eq_true_iff.mp q
    show (PyData.eqv (toPy d) (toPy d) && PyData.eqvAll (toPys ds) (toPys ds)) = true
    rw [eqv_self d a, eqvAll_self ds b]
    rfl
end
theorem dEq_self {n : Nat} {d : D} (hn : n ≤ 64) (h : pl n d = true) : dEq d d = .ok (.bl true) := by
  unfold dEq dEqB
  rw [pl_shp hn h, eqv_self d (pl_lay n d h).1]
  rfl
theorem dNe_self {n : Nat} {d : D} (hn : n ≤ 64) (h : pl n d = true) : dNe d d = .ok (.bl false) := by
  unfold dNe dEqB
  rw [pl_shp hn h, eqv_self d (pl_lay n d h).1]
  rfl
theorem pl_ints {xs : List Int} {n : Nat} (h : xs.length ≤ szL) : pl (n + 2) (.lst (xs.map D.int)) = true := by
  show ((xs.map D.int).all (pl (n + 1)) && decide ((xs.map D.int).length ≤ szL)) = true
  rw [List.length_map, decide_eq_true h, Bool.and_true, List.all_eq_true]
  intro d hd
  obtain ⟨i, _, rfl⟩ := List.mem_map.mp hd
  rfl
theorem pl_pair {p : Int × Int} {n : Nat} : pl (n + 2) (twoD p) = true := by
  show (([D.int p.1, D.int p.2] : List D).all (pl (n + 1)) && decide (2 ≤ szL)) = true
  rw [decide_eq_true (by rw [szL_val]; omega)]
  rfl
theorem pl_pairs {ps : List (Int × Int)} {n : Nat} (h : ps.length ≤ szL) : pl (n + 3) (.lst (ps.map twoD)) = true := by
  show ((ps.map twoD).all (pl (n + 2)) && decide ((ps.map twoD).length ≤ szL)) = true
  rw [List.length_map, decide_eq_true h, Bool.and_true, List.all_eq_true]
  intro d hd
  obtain ⟨p, _, rfl⟩ := List.mem_map.mp hd
  exact pl_pair
/-! ints' lists compared -/
theorem eqvAll_ints : ∀ (xs ys : List Int), PyData.eqvAll (toPys (xs.map D.int)) (toPys (ys.map D.int)) = decide (xs = ys)
  | [], [] => rfl
  | [], _ :: _ => rfl
  | _ :: _, [] => rfl
  | x :: xs, y :: ys => by
    show ((x == y) && PyData.eqvAll (toPys (xs.map D.int)) (toPys (ys.map D.int))) = _
    rw [eqvAll_ints xs ys]
    by_cases h : x = y <;> by_cases h2 : xs = ys <;> simp [h, h2]
theorem dEq_ints {xs ys : List Int} (h1 : xs.length ≤ szL) (h2 : ys.length ≤ szL) : dEq (.lst (xs.map D.int)) (.lst (ys.map D.int)) = .ok (.bl (decide (xs = ys))) := by
  unfold dEq dEqB
  rw [pl_shp (n := 2) (by decide) (pl_ints h1), pl_shp (n := 2) (by decide) (pl_ints h2)]
  show R.ok (D.bl (PyData.eqvAll (toPys (xs.map D.int)) (toPys (ys.map D.int)))) = _
  rw [eqvAll_ints]
theorem dNe_ints {xs ys : List Int} (h1 : xs.length ≤ szL) (h2 : ys.length ≤ szL) : dNe (.lst (xs.map D.int)) (.lst (ys.map D.int)) = .ok (.bl (!decide (xs = ys))) := by
  unfold dNe dEqB
  rw [pl_shp (n := 2) (by decide) (pl_ints h1), pl_shp (n := 2) (by decide) (pl_ints h2)]
  show R.ok (D.bl (!PyData.eqvAll (toPys (xs.map D.int)) (toPys (ys.map D.int)))) = _
  rw [eqvAll_ints]
end VL
end

noncomputable section
namespace VL
open PySem PySem.Spec PyProof.Rows L2

/-! ### the end: from the facts of the built top to the promises -/
/-- where a def stands -/
structure AtF (K : PySem.W.Frag) (mg : Str → Option Value) (x qual : Str) (st : Stmt) : Prop where
  ex : ∃ fa fd, Fun K x qual st fa fd ∧ mg x = some (.ref fa)
theorem at_mk {K : PySem.W.Frag} {h : Heap} {mg : Str → Option Value} (X : K.In h) (G : h.Ns mainGlobals mg) {x qual : Str} {st : Stmt} {f : Addr} {od an : Option Addr} {sl : Array (Option Value)} {oc kV dc pm cd ct : Value}
    (a : PySem.W.nsIn K mainGlobals x = some (some (.ref f))) (l : K.lookup f = some ⟨oc, od, .func (PySem.W.fnOf x qual (defArgs st) (defBody st) (defScope st) .none kV dc pm an cd ct), sl⟩) (c : PySem.W.codeIn K cd qual = true) (k : PySem.W.keepIn K (.ref f) = true) :
    AtF K mg x qual st := ⟨f, _, fun_mk l c k, PySem.W.mg_of X G a⟩
def spLaw (K : PySem.W.Frag) : Sp := fun vs H Q _ => ∃ (a : Addr) (ns : List Int), vs = [.ref a] ∧ SqL K H a (ns.map V.int) ∧ ns.length ≤ 63 ∧ ∀ H', Q (.bl true) H'
theorem cx_no {P : Program} {w : World} {outer : List Env} {H : Hp} {s s' : Shared} {u : Value} (h : L2.CX P w outer H s (fun _ _ _ => False) u s') : False := by
  obtain ⟨a, B, H', cls, d, h⟩ := h
  exact h.2.2.2.2.2.2.2
/-- a law's promise by its plain half -/
theorem law_end {P : Program} {w : World} {K : PySem.W.Frag} {mg : Str → Option Value} {base : Heap} {cl : Cl} {k : Nat} {b : Bool} {f : List D → R D} {fa : Addr} {fd : FuncData} {x : Str} (hK : cl.K = K) (F : FnOk P w K mg base (L2.CX P w) k fa fd [x] (spV cl [b] .val f))
    (hf : ∀ ns : List Int, ns.length ≤ 63 → f [.scr ns] = .ok (.bl true)) (hk : k ≤ 65) : FnOk P w K mg base (L2.CX P w) 65 fa fd [x] (spLaw K) := by
  refine (F.mono hk).imp ?_
  intro vs H Q E ⟨a, ns, e, hs, hl, q⟩
  subst e
  refine ⟨[.scr ns], H, Same.refl _, ?_, ?_⟩
  · have r : Rep cl H (.scr ns) (.ref a) := .scr (by rw [hK]; exact hs)
    cases b with
    | true => exact .val r .nil
    | false => exact .bor (.val r) .nil
  · rw [hf ns hl]
    intro v Hs' H' g rk
    obtain ⟨A, o, _⟩ := rk
    cases o with
    | val r =>
      cases r
      exact q H'
theorem law_walk {l : PySem.W.OpenLaw} {q : Program} {loose : List Str} {XP : (Str → Option Value) → Heap → Prop} {YP : World → Heap → Prop} {d : DefRec} {K : Params → PySem.W.Frag} {x : Str} (hn : l.most = some 63) (hdf : d.params.defaults = [])
    (hY : ∀ (w : World) (h : Heap), YP w h → (K w.params).In h)
    (F : ∀ (w : World) (mg : Str → Option Value) (fa : Addr) (h : Heap), (K w.params).In h → h.Ns mainGlobals mg → mg d.name = some (.ref fa) →
      ∃ fd : FuncData, (∀ (s : Shared) (u : Value), BindsTo s fd ⟨[u], []⟩ [(x, u)]) ∧ ∀ base : Heap, (K w.params).In base → base.Ns mainGlobals mg → FnOk l.prog w (K w.params) mg base (L2.CX l.prog w) 65 fa fd [x] (spLaw (K w.params))) :
    PySem.W.WalkO q loose XP YP l.row.toRowW d [] (fun f vs => PySem.call f vs) :=
  L2.walk_of (n := 63) (k := 65) (x := x) (CX := fun w => L2.CX l.prog w) (sp := fun w => spLaw (K w.params)) hn (by decide) hdf ⟨rfl, by decide, by decide⟩ hY F (fun _ _ a ns hl _ hS => ⟨a, ns, rfl, hS, hl, fun _ => rfl⟩) fun _ _ _ _ _ z => cx_no z
end VL
end

noncomputable section
namespace VL
open PySem PySem.Spec PyProof.Rows L2

/-! ### max(xs, default=e) of a list of whole numbers -/
theorem mxD_args (a d : Value) : argsOk "max" ⟨[a], [(Str.ofString "default", d)]⟩ := by unfold argsOk; kernel_rfl
section
variable {prog : Program} {w : World} {A : Around} {R : Result → Shared → Prop} {I S : Addr} {fp wr : List Addr} {n : Nat} {P : Nat → Value → Prop} {St : Nat → Heap → Prop} {bt : Nat → Nat → Bool} {kw : List (Str × Value)} {E : Value → Shared → Prop}
/-- what the loop leaves -/
abbrev mxEnd (R : Result → Shared → Prop) (s : Shared) (S : Addr) (wr : List Addr) (P : Nat → Value → Prop) (bt : Nat → Nat → Bool) (n : Nat) : Prop :=
  ∀ v h2 t2, P (argBest bt (n - 1)) v → (∀ b o, b ∉ wr → b ≠ S → s.heap.get? b = some o → h2.get? b = some o) → R (.ok (.ret v)) { s with heap := h2, toks := t2 }
theorem mx_turn (W : Walks prog w A.in1 I fp wr n P St) (hc : CmpOf prog w A.in1 .Gt P bt) (hf : S ∉ fp) : ∀ (k j : Nat) (s : Shared) (vb : Value) (c : Nat), n - (j + 1) = k → j + 1 ≤ n → St (j + 1) s.heap → P (argBest bt j) vb →
    s.heap.get? S = some { cls := .type "list", dict := none, data := .seq #[vb, vb] c, slots := #[] } → mxEnd R s S wr P bt n → codeAny (model prog w) A (.builtin "max.loop" ⟨[.ref I, .none, .ref S], kw⟩) R s
  | 0, j, s, vb, c, hk, hj, q, hp, hS, hR => by
    have e : j + 1 = n := by omega
    have nw : S ∉ wr := fun z => hf (W.sub _ z)
    refine codeAny_builtin PySem.F.entry_max_loop ?_; rw [Around.under_plainId PySem.F.plain_max_loop _]
    show wpAny _ A.in1 (seqItems? (.ref S) >>= _) _ _ s; refine wpAny_bind (wpAny_seqItems hS rfl ?_)
    show wpAny _ A.in1 (tryCatch (pyNext (.ref I)) _ >>= _) _ _ s; refine wpAny_bind (wpAny_tryCatch (W.done s _ _ (e ▸ q) fun h2 t2 kp => ?_))
    show wpAny _ A.in1 (updateSeq S (fun _ => #[]) >>= _) _ _ _; refine wpAny_bind ?_
    refine wpAny_updateSeq (kp S _ nw hS) rfl (wpAny_bind (wpAny_letGo (wpAny_pure (hR vb _ t2 (by rw [← e]; exact hp) fun b o hb ne g => ?_))))
    exact (Heap.get?_update_other _ _ (Ne.symm ne)).trans (kp b o hb g)
  | k + 1, j, s, vb, c, hk, hj, q, hp, hS, hR => by
    have lt : j + 1 < n := by omega
    have nw : S ∉ wr := fun z => hf (W.sub _ z)
    have nm : (toString "max" ++ toString ".loop" : String) = "max.loop" := by first | decide | rfl
    refine codeAny_builtin PySem.F.entry_max_loop ?_; rw [Around.under_plainId PySem.F.plain_max_loop _]
    show wpAny _ A.in1 (seqItems? (.ref S) >>= _) _ _ s; refine wpAny_bind (wpAny_seqItems hS rfl ?_)
    show wpAny _ A.in1 (tryCatch (pyNext (.ref I)) _ >>= _) _ _ s; refine wpAny_bind (wpAny_tryCatch (W.item (j + 1) s _ _ lt q fun v h2 t2 hv q2 kp => ?_))
    show wpAny _ A.in1 (tryCatch (holding [v, v] (richCompare .Gt v vb >>= _)) _ >>= _) _ _ _; refine wpAny_bind (wpAny_tryCatch (wpAny_holding (wpAny_bind (hc (j + 1) (argBest bt j) v vb _ _ _ hv hp ?_))))
    refine wpAny_bind (wpAny_holding (wpAny_truthy_bool (wpAny_bind (wpAny_letGo (wpAny_pure ?_)))))
    have hS2 := kp S _ nw hS
    cases hb : bt (j + 1) (argBest bt j) with
    | true =>
      simp only [if_true, Bool.false_eq_true, if_false]; refine wpAny_bind (wpAny_updateSeq hS2 rfl (wpAny_bind (wpAny_letGo ?_))); rw [nm]
      refine wpAny_pure ⟨plainId_quiet PySem.F.plain_max_loop _, mx_turn W hc hf k (j + 1) _ v _ (by omega) lt (W.frame _ _ _ q2 fun b hbf o g => ?_) (by unfold argBest; rw [hb]; exact hv) (Heap.get?_update_self _ hS2 rfl) fun v2 h3 t3 hv2 k3 => ?_⟩
      · exact Eq.trans (Heap.get?_update_other _ _ (fun z : S = b => hf (z ▸ hbf))) g
      · exact hR v2 h3 t3 hv2 fun b o nb ns g => k3 b o nb ns (Eq.trans (Heap.get?_update_other _ _ (Ne.symm ns)) (kp b o nb g))
    | false =>
      simp only [if_true, Bool.false_eq_true, if_false]; refine wpAny_bind (wpAny_letGo ?_); rw [nm]
      refine wpAny_pure ⟨plainId_quiet PySem.F.plain_max_loop _, mx_turn W hc hf k (j + 1) _ vb c (by omega) lt q2 (by unfold argBest; rw [hb]; exact hp) hS2 fun v2 h3 t3 hv2 k3 => ?_⟩
      exact hR v2 h3 t3 hv2 fun b o nb ns g => k3 b o nb ns (kp b o nb g)
theorem mx_first (W : Walks prog w A.in1 I fp wr n P St) (hc : CmpOf prog w A.in1 .Gt P bt) (hf : S ∉ fp) (hn : 0 < n) {s : Shared} {c : Nat} (q : St 0 s.heap) (hS : s.heap.get? S = some { cls := .type "list", dict := none, data := .seq #[] c, slots := #[] }) (hR : mxEnd R s S wr P bt n) :
    codeAny (model prog w) A (.builtin "max.loop" ⟨[.ref I, .none, .ref S], kw⟩) R s := by
  have nw : S ∉ wr := fun z => hf (W.sub _ z)
  have nm : (toString "max" ++ toString ".loop" : String) = "max.loop" := by first | decide | rfl
  refine codeAny_builtin PySem.F.entry_max_loop ?_; rw [Around.under_plainId PySem.F.plain_max_loop _]
  show wpAny _ A.in1 (seqItems? (.ref S) >>= _) _ _ s; refine wpAny_bind (wpAny_seqItems hS rfl ?_)
  show wpAny _ A.in1 (tryCatch (pyNext (.ref I)) _ >>= _) _ _ s; refine wpAny_bind (wpAny_tryCatch (W.item 0 s _ _ hn q fun v h2 t2 hv q2 kp => ?_))
  have hS2 := kp S _ nw hS
  show wpAny _ A.in1 (updateSeq S (fun _ => #[v, v]) >>= _) _ _ _; refine wpAny_bind (wpAny_updateSeq hS2 rfl ?_); rw [nm]
  refine wpAny_pure ⟨plainId_quiet PySem.F.plain_max_loop _, mx_turn W hc hf _ 0 _ v _ rfl hn (W.frame _ _ _ q2 fun b hbf o g => ?_) hv (Heap.get?_update_self _ hS2 rfl) fun v2 h3 t3 hv2 k3 => ?_⟩
  · exact Eq.trans (Heap.get?_update_other _ _ (fun z : S = b => hf (z ▸ hbf))) g
  · exact hR v2 h3 t3 hv2 fun b o nb ns g => k3 b o nb ns (Eq.trans (Heap.get?_update_other _ _ (Ne.symm ns)) (kp b o nb g))
theorem mx_none (W : Walks prog w A.in1 I fp wr 0 P St) {s : Shared} {c : Nat} {d : Value} (hf : S ∉ fp) (q : St 0 s.heap) (hS : s.heap.get? S = some { cls := .type "list", dict := none, data := .seq #[] c, slots := #[] })
    (hR : ∀ h2 t2, (∀ b o, b ∉ wr → b ≠ S → s.heap.get? b = some o → h2.get? b = some o) → R (.ok (.ret d)) { s with heap := h2, toks := t2 }) :
    codeAny (model prog w) A (.builtin "max.loop" ⟨[.ref I, .none, .ref S], [(Str.ofString "default", d)]⟩) R s := by
  refine codeAny_builtin PySem.F.entry_max_loop ?_; rw [Around.under_plainId PySem.F.plain_max_loop _]
  show wpAny _ A.in1 (seqItems? (.ref S) >>= _) _ _ s; refine wpAny_bind (wpAny_seqItems hS rfl ?_)
  show wpAny _ A.in1 (tryCatch (pyNext (.ref I)) _ >>= _) _ _ s; refine wpAny_bind (wpAny_tryCatch (W.done s _ _ q fun h2 t2 kp => ?_))
  show wpAny _ A.in1 (rule _ >>= _) _ _ _; refine wpAny_bind (wpAny_rule ?_)
  exact wpAny_pure (hR h2 t2 fun b o hb _ g => kp b o hb g)
theorem mx_call {s : Shared} {l : Addr} {xs : Array (Int × Tok)} {d : Value} {Q : Value → Shared → Prop} (hh : A.handled = none) (hl : s.heap.IsList l (intItems xs))
    (h : ∀ v h2 t2, (if xs.size = 0 then v = d else (intItems xs)[argBest (fun i j => decide (numAt xs i > numAt xs j)) (xs.size - 1)]? = some v) → (∀ b o, s.heap.get? b = some o → h2.get? b = some o) → Q v { s with heap := h2, toks := t2 }) :
    wpAny (model prog w) A (call (.builtin "max") [.ref l] [(Str.ofString "default", d)]) Q E s := by
  have nm : (toString "max" ++ toString ".loop" : String) = "max.loop" := by first | decide | rfl
  refine PyProof.Rows.kmb_tree PySem.F.kind_max PySem.F.plain_max PySem.F.entry_max (mxD_args _ _) ?_
  show wpAny _ A.in1 (Builtin.Builtins.bindParams "max" ["key", "default"] 0 ⟨[], [(Str.ofString "default", d)]⟩ >>= _) _ _ s; refine wpAny_bind (wpAny_of_eq (show Builtin.Builtins.bindParams "max" ["key", "default"] 0 ⟨[], [(Str.ofString "default", d)]⟩ = pure [none, some d] from rfl) ?_)
  refine wpAny_bind (wpAny_pure (wpAny_bind (iter_intList hl fun s2 e2 st fp ne => ?_)))
  subst e2
  refine wpAny_bind (wpAny_newObj_type ?_); rw [nm]
  have W := Walks.list (prog := prog) (w := w) (A := A.in1) hh s.heap.objs.size l ne (intItems xs)
  have hf : (s.heap.push { cls := .type "list_iterator", data := .fields #[.ref l, .int 0 0] }).objs.size ∉ [s.heap.objs.size, l] := fun z => Nat.lt_irrefl _ (fp _ z)
  have fin : ∀ (h2 : Heap), (∀ b o, b ∉ [s.heap.objs.size] → b ≠ (s.heap.push { cls := .type "list_iterator", data := .fields #[.ref l, .int 0 0] }).objs.size → ((s.heap.push { cls := .type "list_iterator", data := .fields #[.ref l, .int 0 0] }).push { cls := .type "list", dict := none, data := .seq #[] 0, slots := #[] }).get? b = some o → h2.get? b = some o) → ∀ b o, s.heap.get? b = some o → h2.get? b = some o := by
    intro h2 k2
    refine old_kept fun b o nb g => k2 b o nb (Nat.ne_of_lt (Heap.lt_size g)) (Heap.get?_push_of_some _ g)
  by_cases z : xs.size = 0
  · have zi : (intItems xs).size = 0 := by unfold intItems; rw [Array.size_map]; exact z
    rw [zi] at W
    refine wpAny_pure ⟨plainId_quiet PySem.F.plain_max_loop _, mx_none W hf (W.frame _ _ _ st fun b _ o g => Heap.get?_push_of_some _ g) (Heap.get?_push_size _ rfl) fun h2 t2 k2 => ?_⟩
    exact h d h2 t2 (by rw [if_pos z]) (fin h2 k2)
  · have zi : (intItems xs).size = xs.size := by unfold intItems; rw [Array.size_map]
    rw [zi] at W
    refine wpAny_pure ⟨plainId_quiet PySem.F.plain_max_loop _, mx_first W (CmpOf.ints_gt (numAt xs) (fun _ _ => intItems_at)) hf (Nat.pos_of_ne_zero z) (W.frame _ _ _ st fun b _ o g => Heap.get?_push_of_some _ g) (Heap.get?_push_size _ rfl) fun v h2 t2 hv k2 => ?_⟩
    exact h v h2 t2 (by rw [if_neg z]; exact hv) (fin h2 k2)
end

/-! ### min(xs, default=e) of a list of whole numbers -/
theorem mnD_args (a d : Value) : argsOk "min" ⟨[a], [(Str.ofString "default", d)]⟩ := by unfold argsOk; kernel_rfl
section
variable {prog : Program} {w : World} {A : Around} {R : Result → Shared → Prop} {I S : Addr} {fp wr : List Addr} {n : Nat} {P : Nat → Value → Prop} {St : Nat → Heap → Prop} {bt : Nat → Nat → Bool} {kw : List (Str × Value)} {E : Value → Shared → Prop}
/-- what the loop leaves -/
abbrev mnEnd (R : Result → Shared → Prop) (s : Shared) (S : Addr) (wr : List Addr) (P : Nat → Value → Prop) (bt : Nat → Nat → Bool) (n : Nat) : Prop :=
  ∀ v h2 t2, P (argBest bt (n - 1)) v → (∀ b o, b ∉ wr → b ≠ S → s.heap.get? b = some o → h2.get? b = some o) → R (.ok (.ret v)) { s with heap := h2, toks := t2 }
theorem mn_turn (W : Walks prog w A.in1 I fp wr n P St) (hc : CmpOf prog w A.in1 .Lt P bt) (hf : S ∉ fp) : ∀ (k j : Nat) (s : Shared) (vb : Value) (c : Nat), n - (j + 1) = k → j + 1 ≤ n → St (j + 1) s.heap → P (argBest bt j) vb →
    s.heap.get? S = some { cls := .type "list", dict := none, data := .seq #[vb, vb] c, slots := #[] } → mnEnd R s S wr P bt n → codeAny (model prog w) A (.builtin "min.loop" ⟨[.ref I, .none, .ref S], kw⟩) R s
  | 0, j, s, vb, c, hk, hj, q, hp, hS, hR => by
    have e : j + 1 = n := by omega
    have nw : S ∉ wr := fun z => hf (W.sub _ z)
    refine codeAny_builtin PySem.F.entry_min_loop ?_; rw [Around.under_plainId PySem.F.plain_min_loop _]
    show wpAny _ A.in1 (seqItems? (.ref S) >>= _) _ _ s; refine wpAny_bind (wpAny_seqItems hS rfl ?_)
    show wpAny _ A.in1 (tryCatch (pyNext (.ref I)) _ >>= _) _ _ s; refine wpAny_bind (wpAny_tryCatch (W.done s _ _ (e ▸ q) fun h2 t2 kp => ?_))
    show wpAny _ A.in1 (updateSeq S (fun _ => #[]) >>= _) _ _ _; refine wpAny_bind ?_
    refine wpAny_updateSeq (kp S _ nw hS) rfl (wpAny_bind (wpAny_letGo (wpAny_pure (hR vb _ t2 (by rw [← e]; exact hp) fun b o hb ne g => ?_))))
    exact (Heap.get?_update_other _ _ (Ne.symm ne)).trans (kp b o hb g)
  | k + 1, j, s, vb, c, hk, hj, q, hp, hS, hR => by
    have lt : j + 1 < n := by omega
    have nw : S ∉ wr := fun z => hf (W.sub _ z)
    have nm : (toString "min" ++ toString ".loop" : String) = "min.loop" := by first | decide | rfl
    refine codeAny_builtin PySem.F.entry_min_loop ?_; rw [Around.under_plainId PySem.F.plain_min_loop _]
    show wpAny _ A.in1 (seqItems? (.ref S) >>= _) _ _ s; refine wpAny_bind (wpAny_seqItems hS rfl ?_)
    show wpAny _ A.in1 (tryCatch (pyNext (.ref I)) _ >>= _) _ _ s; refine wpAny_bind (wpAny_tryCatch (W.item (j + 1) s _ _ lt q fun v h2 t2 hv q2 kp => ?_))
    show wpAny _ A.in1 (tryCatch (holding [v, v] (richCompare .Lt v vb >>= _)) _ >>= _) _ _ _; refine wpAny_bind (wpAny_tryCatch (wpAny_holding (wpAny_bind (hc (j + 1) (argBest bt j) v vb _ _ _ hv hp ?_))))
    refine wpAny_bind (wpAny_holding (wpAny_truthy_bool (wpAny_bind (wpAny_letGo (wpAny_pure ?_)))))
    have hS2 := kp S _ nw hS
    cases hb : bt (j + 1) (argBest bt j) with
    | true =>
      simp only [if_true, Bool.false_eq_true, if_false]; refine wpAny_bind (wpAny_updateSeq hS2 rfl (wpAny_bind (wpAny_letGo ?_))); rw [nm]
      refine wpAny_pure ⟨plainId_quiet PySem.F.plain_min_loop _, mn_turn W hc hf k (j + 1) _ v _ (by omega) lt (W.frame _ _ _ q2 fun b hbf o g => ?_) (by unfold argBest; rw [hb]; exact hv) (Heap.get?_update_self _ hS2 rfl) fun v2 h3 t3 hv2 k3 => ?_⟩
      · exact Eq.trans (Heap.get?_update_other _ _ (fun z : S = b => hf (z ▸ hbf))) g
      · exact hR v2 h3 t3 hv2 fun b o nb ns g => k3 b o nb ns (Eq.trans (Heap.get?_update_other _ _ (Ne.symm ns)) (kp b o nb g))
    | false =>
      simp only [if_true, Bool.false_eq_true, if_false]; refine wpAny_bind (wpAny_letGo ?_); rw [nm]
      refine wpAny_pure ⟨plainId_quiet PySem.F.plain_min_loop _, mn_turn W hc hf k (j + 1) _ vb c (by omega) lt q2 (by unfold argBest; rw [hb]; exact hp) hS2 fun v2 h3 t3 hv2 k3 => ?_⟩
      exact hR v2 h3 t3 hv2 fun b o nb ns g => k3 b o nb ns (kp b o nb g)
theorem mn_first (W : Walks prog w A.in1 I fp wr n P St) (hc : CmpOf prog w A.in1 .Lt P bt) (hf : S ∉ fp) (hn : 0 < n) {s : Shared} {c : Nat} (q : St 0 s.heap) (hS : s.heap.get? S = some { cls := .type "list", dict := none, data := .seq #[] c, slots := #[] }) (hR : mnEnd R s S wr P bt n) :
    codeAny (model prog w) A (.builtin "min.loop" ⟨[.ref I, .none, .ref S], kw⟩) R s := by
  have nw : S ∉ wr := fun z => hf (W.sub _ z)
  have nm : (toString "min" ++ toString ".loop" : String) = "min.loop" := by first | decide | rfl
  refine codeAny_builtin PySem.F.entry_min_loop ?_; rw [Around.under_plainId PySem.F.plain_min_loop _]
  show wpAny _ A.in1 (seqItems? (.ref S) >>= _) _ _ s; refine wpAny_bind (wpAny_seqItems hS rfl ?_)
  show wpAny _ A.in1 (tryCatch (pyNext (.ref I)) _ >>= _) _ _ s; refine wpAny_bind (wpAny_tryCatch (W.item 0 s _ _ hn q fun v h2 t2 hv q2 kp => ?_))
  have hS2 := kp S _ nw hS
  show wpAny _ A.in1 (updateSeq S (fun _ => #[v, v]) >>= _) _ _ _; refine wpAny_bind (wpAny_updateSeq hS2 rfl ?_); rw [nm]
  refine wpAny_pure ⟨plainId_quiet PySem.F.plain_min_loop _, mn_turn W hc hf _ 0 _ v _ rfl hn (W.frame _ _ _ q2 fun b hbf o g => ?_) hv (Heap.get?_update_self _ hS2 rfl) fun v2 h3 t3 hv2 k3 => ?_⟩
  · exact Eq.trans (Heap.get?_update_other _ _ (fun z : S = b => hf (z ▸ hbf))) g
  · exact hR v2 h3 t3 hv2 fun b o nb ns g => k3 b o nb ns (Eq.trans (Heap.get?_update_other _ _ (Ne.symm ns)) (kp b o nb g))
theorem mn_none (W : Walks prog w A.in1 I fp wr 0 P St) {s : Shared} {c : Nat} {d : Value} (hf : S ∉ fp) (q : St 0 s.heap) (hS : s.heap.get? S = some { cls := .type "list", dict := none, data := .seq #[] c, slots := #[] })
    (hR : ∀ h2 t2, (∀ b o, b ∉ wr → b ≠ S → s.heap.get? b = some o → h2.get? b = some o) → R (.ok (.ret d)) { s with heap := h2, toks := t2 }) :
    codeAny (model prog w) A (.builtin "min.loop" ⟨[.ref I, .none, .ref S], [(Str.ofString "default", d)]⟩) R s := by
  refine codeAny_builtin PySem.F.entry_min_loop ?_; rw [Around.under_plainId PySem.F.plain_min_loop _]
  show wpAny _ A.in1 (seqItems? (.ref S) >>= _) _ _ s; refine wpAny_bind (wpAny_seqItems hS rfl ?_)
  show wpAny _ A.in1 (tryCatch (pyNext (.ref I)) _ >>= _) _ _ s; refine wpAny_bind (wpAny_tryCatch (W.done s _ _ q fun h2 t2 kp => ?_))
  show wpAny _ A.in1 (rule _ >>= _) _ _ _; refine wpAny_bind (wpAny_rule ?_)
  exact wpAny_pure (hR h2 t2 fun b o hb _ g => kp b o hb g)
theorem mn_call {s : Shared} {l : Addr} {xs : Array (Int × Tok)} {d : Value} {Q : Value → Shared → Prop} (hh : A.handled = none) (hl : s.heap.IsList l (intItems xs))
    (h : ∀ v h2 t2, (if xs.size = 0 then v = d else (intItems xs)[argBest (fun i j => decide (numAt xs i < numAt xs j)) (xs.size - 1)]? = some v) → (∀ b o, s.heap.get? b = some o → h2.get? b = some o) → Q v { s with heap := h2, toks := t2 }) :
    wpAny (model prog w) A (call (.builtin "min") [.ref l] [(Str.ofString "default", d)]) Q E s := by
  have nm : (toString "min" ++ toString ".loop" : String) = "min.loop" := by first | decide | rfl
  refine PyProof.Rows.kmb_tree PySem.F.kind_min PySem.F.plain_min PySem.F.entry_min (mnD_args _ _) ?_
  show wpAny _ A.in1 (Builtin.Builtins.bindParams "min" ["key", "default"] 0 ⟨[], [(Str.ofString "default", d)]⟩ >>= _) _ _ s; refine wpAny_bind (wpAny_of_eq (show Builtin.Builtins.bindParams "min" ["key", "default"] 0 ⟨[], [(Str.ofString "default", d)]⟩ = pure [none, some d] from rfl) ?_)
  refine wpAny_bind (wpAny_pure (wpAny_bind (iter_intList hl fun s2 e2 st fp ne => ?_)))
  subst e2
  refine wpAny_bind (wpAny_newObj_type ?_); rw [nm]
  have W := Walks.list (prog := prog) (w := w) (A := A.in1) hh s.heap.objs.size l ne (intItems xs)
  have hf : (s.heap.push { cls := .type "list_iterator", data := .fields #[.ref l, .int 0 0] }).objs.size ∉ [s.heap.objs.size, l] := fun z => Nat.lt_irrefl _ (fp _ z)
  have fin : ∀ (h2 : Heap), (∀ b o, b ∉ [s.heap.objs.size] → b ≠ (s.heap.push { cls := .type "list_iterator", data := .fields #[.ref l, .int 0 0] }).objs.size → ((s.heap.push { cls := .type "list_iterator", data := .fields #[.ref l, .int 0 0] }).push { cls := .type "list", dict := none, data := .seq #[] 0, slots := #[] }).get? b = some o → h2.get? b = some o) → ∀ b o, s.heap.get? b = some o → h2.get? b = some o := by
    intro h2 k2
    refine old_kept fun b o nb g => k2 b o nb (Nat.ne_of_lt (Heap.lt_size g)) (Heap.get?_push_of_some _ g)
  by_cases z : xs.size = 0
  · have zi : (intItems xs).size = 0 := by unfold intItems; rw [Array.size_map]; exact z
    rw [zi] at W
    refine wpAny_pure ⟨plainId_quiet PySem.F.plain_min_loop _, mn_none W hf (W.frame _ _ _ st fun b _ o g => Heap.get?_push_of_some _ g) (Heap.get?_push_size _ rfl) fun h2 t2 k2 => ?_⟩
    exact h d h2 t2 (by rw [if_pos z]) (fin h2 k2)
  · have zi : (intItems xs).size = xs.size := by unfold intItems; rw [Array.size_map]
    rw [zi] at W
    refine wpAny_pure ⟨plainId_quiet PySem.F.plain_min_loop _, mn_first W (CmpOf.ints_lt (numAt xs) (fun _ _ => intItems_at)) hf (Nat.pos_of_ne_zero z) (W.frame _ _ _ st fun b _ o g => Heap.get?_push_of_some _ g) (Heap.get?_push_size _ rfl) fun v h2 t2 hv k2 => ?_⟩
    exact h v h2 t2 (by rw [if_neg z]; exact hv) (fin h2 k2)
end

end VL
end

noncomputable section
namespace VL
open PySem PySem.Spec PyProof.Rows L2
def rMxD (K : PySem.W.Frag) (le : Int → Int → Prop) : List V → List V → Hp → VK → Prop := fun vs zs H Q => ∃ (a : Addr) (ns : List Int) (z : V), vs = [V.ref a] ∧ zs = [z] ∧ SqL K H a (ns.map V.int) ∧ (ns = [] → Q z H) ∧ ∀ m, m ∈ ns → (∀ y, y ∈ ns → le y m) → Q (.int m) H
theorem cr_mxD {X : Cx} (hc : X.calm = true) : CallRK X (.builtin "max") [Str.ofString "default"] (rMxD X.K fun y m => y ≤ m) := by
  intro pins s σ H vs zs us ws Q I r rz h
  obtain ⟨a, ns, z, rfl, rfl, hs, h0, h1⟩ := h
  obtain ⟨its, rv, hl, _⟩ := I.list hs
  obtain ⟨w1, rfl, e1⟩ := vals1 rz
  rw [Vals.ref1 r]
  have hi := rv.ints
  obtain ⟨xs, e⟩ := hi.allInts.items
  have hn : numsOf (intItems xs).toList = ns := by rw [← e]; exact hi.numsOf
  rw [nums_intItems] at hn
  have hl2 := hl.isList
  rw [e] at hl2
  have len : xs.size = ns.length := by rw [← hn, List.length_map, Array.length_toList]
  refine mx_call (I.ok.hd hc) hl2 fun v h2 t2 hv hk => ?_
  by_cases z0 : xs.size = 0
  · rw [if_pos z0] at hv
    subst hv
    exact ⟨z, H, I.kept hk, e1, h0 (List.length_eq_zero_iff.mp (len ▸ z0))⟩
  · rw [if_neg z0] at hv
    obtain ⟨t, rfl⟩ := intItems_at hv
    obtain ⟨k1, k2⟩ := argBest_gt (numAt xs) (xs.size - 1)
    refine ⟨.int _, H, I.kept hk, ⟨_, rfl⟩, h1 _ ?_ fun y hy => ?_⟩
    · rw [numAt_eq, ← hn]; exact PySem.getD_mem (by rw [List.length_map, Array.length_toList]; omega)
    · rw [← hn] at hy
      obtain ⟨j, hj, rfl⟩ := mem_getD hy
      rw [List.length_map, Array.length_toList] at hj
      rw [← numAt_eq]; exact k2 j (by omega)
theorem cr_mnD {X : Cx} (hc : X.calm = true) : CallRK X (.builtin "min") [Str.ofString "default"] (rMxD X.K fun y m => m ≤ y) := by
  intro pins s σ H vs zs us ws Q I r rz h
  obtain ⟨a, ns, z, rfl, rfl, hs, h0, h1⟩ := h
  obtain ⟨its, rv, hl, _⟩ := I.list hs
  obtain ⟨w1, rfl, e1⟩ := vals1 rz
  rw [Vals.ref1 r]
  have hi := rv.ints
  obtain ⟨xs, e⟩ := hi.allInts.items
  have hn : numsOf (intItems xs).toList = ns := by rw [← e]; exact hi.numsOf
  rw [nums_intItems] at hn
  have hl2 := hl.isList
  rw [e] at hl2
  have len : xs.size = ns.length := by rw [← hn, List.length_map, Array.length_toList]
  refine mn_call (I.ok.hd hc) hl2 fun v h2 t2 hv hk => ?_
  by_cases z0 : xs.size = 0
  · rw [if_pos z0] at hv
    subst hv
    exact ⟨z, H, I.kept hk, e1, h0 (List.length_eq_zero_iff.mp (len ▸ z0))⟩
  · rw [if_neg z0] at hv
    obtain ⟨t, rfl⟩ := intItems_at hv
    obtain ⟨k1, k2⟩ := argBest_lt (numAt xs) (xs.size - 1)
    refine ⟨.int _, H, I.kept hk, ⟨_, rfl⟩, h1 _ ?_ fun y hy => ?_⟩
    · rw [numAt_eq, ← hn]; exact PySem.getD_mem (by rw [List.length_map, Array.length_toList]; omega)
    · rw [← hn] at hy
      obtain ⟨j, hj, rfl⟩ := mem_getD hy
      rw [List.length_map, Array.length_toList] at hj
      rw [← numAt_eq]; exact k2 j (by omega)
def fMaxD : D → D → R D
  | .lst ds, d => match intsOf ds with
    | some ns => .ok (if ns = [] then d else .int (lmax ns))
    | none => .stuck
  | _, _ => .stuck
def fMinD : D → D → R D
  | .lst ds, d => match intsOf ds with
    | some ns => .ok (if ns = [] then d else .int (lmin ns))
    | none => .stuck
  | _, _ => .stuck
section
variable {X : Cx} {E : En} {ks : List Kd} {e e0 : Expr} {g g0 : Sl → R D} {p pos kp : Pos}
theorem se_maxD (B : Bl X.mg) (ha : SE X E ks .bor e g) (hd : SE X E ks .val e0 g0) (hc : X.calm = true := by rfl) (hg : Gl X "max" := by rfl) (hs : starEach (e :: []) X.env = (false, eval e X.env) :: starEach [] X.env := by rfl)
    (he : backTo pos (starEach (e :: []) X.env) = (false, eval e X.env) :: backTo pos (starEach [] X.env) := by rfl) (hpl : (backTo pos (starEach (e :: []) X.env)).any (·.1) = false := by rfl)
    (hall : (backToKw pos (keywordEach [⟨some "default", e0, kp⟩] X.env)).all (·.1.isSome) = true := by rfl) (hnone : (backToKw pos (keywordEach [⟨some "default", e0, kp⟩] X.env)).any (·.1.isNone) = false := by rfl)
    (hks : (backToKw pos (keywordEach [⟨some "default", e0, kp⟩] X.env)).filterMap (·.1) = [Str.ofString "default"] := by rfl) :
    SE X E ks .val (.Call (.Name "max" p) [e] [⟨some "default", e0, kp⟩] pos) (gBin fMaxD g g0) := by
  refine ⟨fun Hs H r σ W Q tk S P => ?_⟩
  refine we_of (pe_callBK (cr_mxD hc) hg B.max bb_max (pa_cons pe_we pa_nil hs) (pk_cons pe_we pk_nil) bn_max bd_max he hpl hall hnone hks) ?_
  refine ha.run _ _ _ _ _ _ tk S (P.imp fun d1 v1 Hs1 H1 e1 g1 k1 P1 => ?_)
  refine hd.run _ _ _ _ _ _ tk (S.grow g1) (P1.imp fun d2 v2 Hs2 H2 e2 g2 k2 P2 => ?_)
  have rb := k1.rb.grow g2
  cases d1 <;> first | exact P2.elim | skip
  dsimp only [fMaxD] at P2
  split at P2
  · rename_i ns q
    obtain ⟨a, rfl, h1⟩ := rb.intsInv g2.sub q
    refine ⟨a, ns, v2, rfl, rfl, SqL.of h1, fun z => ?_, fun m hm hle => ?_⟩
    · rw [if_pos z] at P2
      exact P2 _ _ _ (Grow.refl g2.sub) (RK.val k2.rep)
    · have hle2 : ∀ y, y ∈ ns → y ≤ m := hle
      rw [if_neg (List.ne_nil_of_mem hm)] at P2
      rw [lmax_of hm hle2]
      exact P2.finV g2.sub (.int _)
  · exact P2.elim
theorem se_minD (B : Bl X.mg) (ha : SE X E ks .bor e g) (hd : SE X E ks .val e0 g0) (hc : X.calm = true := by rfl) (hg : Gl X "min" := by rfl) (hs : starEach (e :: []) X.env = (false, eval e X.env) :: starEach [] X.env := by rfl)
    (he : backTo pos (starEach (e :: []) X.env) = (false, eval e X.env) :: backTo pos (starEach [] X.env) := by rfl) (hpl : (backTo pos (starEach (e :: []) X.env)).any (·.1) = false := by rfl)
    (hall : (backToKw pos (keywordEach [⟨some "default", e0, kp⟩] X.env)).all (·.1.isSome) = true := by rfl) (hnone : (backToKw pos (keywordEach [⟨some "default", e0, kp⟩] X.env)).any (·.1.isNone) = false := by rfl)
    (hks : (backToKw pos (keywordEach [⟨some "default", e0, kp⟩] X.env)).filterMap (·.1) = [Str.ofString "default"] := by rfl) :
    SE X E ks .val (.Call (.Name "min" p) [e] [⟨some "default", e0, kp⟩] pos) (gBin fMinD g g0) := by
  refine ⟨fun Hs H r σ W Q tk S P => ?_⟩
  refine we_of (pe_callBK (cr_mnD hc) hg B.min bb_min (pa_cons pe_we pa_nil hs) (pk_cons pe_we pk_nil) bn_min bd_min he hpl hall hnone hks) ?_
  refine ha.run _ _ _ _ _ _ tk S (P.imp fun d1 v1 Hs1 H1 e1 g1 k1 P1 => ?_)
  refine hd.run _ _ _ _ _ _ tk (S.grow g1) (P1.imp fun d2 v2 Hs2 H2 e2 g2 k2 P2 => ?_)
  have rb := k1.rb.grow g2
  cases d1 <;> first | exact P2.elim | skip
  dsimp only [fMinD] at P2
  split at P2
  · rename_i ns q
    obtain ⟨a, rfl, h1⟩ := rb.intsInv g2.sub q
    refine ⟨a, ns, v2, rfl, rfl, SqL.of h1, fun z => ?_, fun m hm hle => ?_⟩
    · rw [if_pos z] at P2
      exact P2 _ _ _ (Grow.refl g2.sub) (RK.val k2.rep)
    · have hle2 : ∀ y, y ∈ ns → m ≤ y := hle
      rw [if_neg (List.ne_nil_of_mem hm)] at P2
      rw [lmin_of hm hle2]
      exact P2.finV g2.sub (.int _)
  · exact P2.elim
end
end VL
end

noncomputable section
namespace VL
open PySem PySem.Spec PyProof.Rows L2

/-! ### x.remove(e) -/
def rRemD (K : PySem.W.Frag) : V → List V → Hp → VK → Prop := fun x xs H Q => ∃ (l : Addr) (vs : List V) (ds : List PyData) (y : V) (d : PyData) (j : Nat), x = .ref l ∧ xs = [y] ∧ H l = some (.lst vs) ∧ DpAll K H vs ds ∧ Dp K H y d ∧
  PyData.plainAll ds = true ∧ d.plain = true ∧ d.depth ≤ 64 ∧ SeqAt.dataPlace ds d = some j ∧ Q .non (upd H l (.lst (vs.eraseIdx j)))
theorem mt_removeD {X : Cx} (hu : X.A.units + 65 < cLine) : MtR X "list.remove" (rRemD X.K) := by
  intro pins s σ H x xs v us Q I rx rxs h
  obtain ⟨l, vs, ds, y, d, j, rfl, rfl, hH, hv, hy, p1, p2, dep, hp, q⟩ := h
  cases rx
  obtain ⟨u, rfl, ru⟩ := rxs.one
  obtain ⟨z, its, n, r, hl, e⟩ := I.lstM hH
  obtain ⟨as, r1⟩ := Dp.readsAll I ds _ its hv r
  obtain ⟨bs, r2⟩ := Dp.reads I d y u hy ru
  refine SeqAt.remove_list_data (l := l) (vs := its.toArray) ⟨_, e, rfl, n, rfl⟩ r1 r2 p1 p2 (by omega) hp (by rw [List.size_toArray]; omega) ?_
  refine ⟨.non, _, I.lset (its' := its.eraseIdx j) (t' := s.toks) hH e ?_ (r.eraseIdx j) ?_, rfl, q⟩
  · show its.toArray.eraseIdxIfInBounds j = (its.eraseIdx j).toArray
    rw [List.eraseIdxIfInBounds_toArray]
  · have z2 : (vs.eraseIdx j).length ≤ vs.length := List.length_eraseIdx_le _ _
    omega
theorem place_toPys (d : D) : ∀ ds : List D, SeqAt.dataPlace (toPys ds) (toPy d) = ds.findIdx? fun z => dEqB z d
  | [] => rfl
  | x :: xs => by
    have ih := place_toPys d xs
    unfold SeqAt.dataPlace at ih ⊢
    show List.findIdx? (fun y => PyData.eqv y (toPy d)) (toPy x :: toPys xs) = _
    rw [List.findIdx?_cons, List.findIdx?_cons, ih]
    rfl
theorem RepL.eraseIdx {cl : Cl} {H : Hp} : ∀ {ds : List D} {vs : List V}, RepL cl H ds vs → ∀ j, RepL cl H (ds.eraseIdx j) (vs.eraseIdx j)
  | _, _, .nil, _ => .nil
  | _, _, .cons a r, 0 => r
  | _, _, .cons a r, j + 1 => .cons a (RepL.eraseIdx r j)
section
variable {X : Cx} {E : En} {kr : Kd} {fin : List Kd → Prop} {ks ks' : List Kd} {e : Expr} {g : Sl → R D} {pos : Pos}
def remL (ds : List D) (d : D) : Option (List D) := if shp d && shp (.lst ds) then (ds.findIdx? fun z => dEqB z d).map fun j => ds.eraseIdx j else none
@[simp] def mRem (i : Nat) (g : Sl → R D) : Sl → O := fun r => match r[i]? with
  | some (some (.lst ds)) => onR (g r) r fun d => (match remL ds d with
    | some ds' => .nx (r.set i (some (.lst ds')))
    | none => .stuck)
  | _ => .stuck
theorem ss_remove {i : Nat} {n : Option Addr} {x : Str} {p1 p2 p3 : Pos} (hu : X.A.units + 65 < cLine) (he : SE X E ks .val e g) (hf : fin ks := by trivial) (hk : ks[i]? = some (.own n) := by rfl) (hN : X.N[i]? = some x := by rfl) (hv : Vis X.env.scope x := by first | exact Or.inl rfl | exact Or.inr (Or.inl rfl) | exact Or.inr (Or.inr rfl))
    (hq : NmOk x)
    (hs : swapsWith (.Call (.Attribute (.Name x p1) "remove" p2) [e] [] p3) none pos.line X.env = pure false := by rfl)
    (hbase : attributeBase (.Name x p1) "remove" X.env (eval (.Name x p1) X.env) = eval (.Name x p1) X.env := by rfl)
    (hfew : ((backTo p3 (starEach [e] X.env)).all (fun x => !x.1) && (backToKw p3 (keywordEach [] X.env)).all (fun x => x.1.isSome)
      && decide ([e].length + ([] : List Keyword).length + (if ([] : List Keyword).isEmpty then 0 else 1) < 30)) = true := by rfl)
    (hline : (p2.endLine == p3.line) = true := by rfl) (hst : starEach [e] X.env = (false, eval e X.env) :: starEach [] X.env := by rfl) (hplain : (backTo p3 (starEach [] X.env)).any (·.1) = false := by rfl) :
    SS X E kr fin ks (.Expr (.Call (.Attribute (.Name x p1) "remove" p2) [e] [] p3) pos) (mRem i g) ks := by
  refine ⟨fun Hs H r σ W Dn tk S P => ?_⟩
  refine ws_of (ps_expr (pe_bm PySem.F.plainAttrs_list PySem.F.slot_list_remove PySem.F.type_list_remove (mt_removeD hu) (pe_var hN hv hq.1 hq.2) (pa_cons pe_we pa_nil hst) hbase hfew hline hst hplain) hs) ?_
  unfold mRem at P
  split at P
  · rename_i ds q
    obtain ⟨a, xs, ea, h1, r1, _⟩ := S.mutL hk q
    refine ⟨.ref a, ea, tyV_lst h1, ?_⟩
    refine he.run _ _ _ _ _ _ tk S (Post.ofS hf S P fun d v Hs' H' e1 g1 k1 P1 => ?_)
    obtain ⟨a', xs', ea', h2, r2, up⟩ := (S.grow g1).mutL hk q
    rw [ea] at ea'
    cases ea'
    cases q2 : remL ds d with
    | none => rw [q2] at P1; exact P1.elim
    | some ds' =>
      rw [q2] at P1
      unfold remL at q2
      split at q2
      · rename_i hsh
        have h' : shp d = true ∧ shp (.lst ds) = true := by simpa using hsh
        cases q3 : ds.findIdx? fun z => dEqB z d with
        | none => rw [q3] at q2; cases q2
        | some j =>
          rw [q3] at q2
          cases q2
          have c1 := SeqAt.canLay_of_shaped h'.1
          have c2 := SeqAt.canLay_of_shaped h'.2
          have dep : (toPy d).depth ≤ 64 := of_decide_eq_true (Bool.and_eq_true_iff.mp h'.1).2
          have lay2 : PyData.canLayAll0 (toPys ds) = true := c2
          refine ⟨a, xs', toPys ds, v, toPy d, j, rfl, rfl, h2, ?_, ?_, PyData.plainAll_of_canLay0 _ lay2, PyData.plain_of_canLay0 _ c1, dep, ?_, P1 _ _ _ (up _ _ (r2.eraseIdx j))⟩
          · exact RepL.dp ds xs' lay2 (RepL.same g1.sub _ _ r2)
          · exact Rep.dp d v c1 (Rep.same g1.sub _ _ k1.rep)
          · rw [place_toPys]; exact q3
      · cases q2
  · exact P.elim
end
end VL
end

noncomputable section
namespace VL
open PySem PySem.Spec PyProof.Rows L2

/-! ### own classes of exceptions at the end -/
theorem upd_comm {H : Hp} {a b : Addr} {o u : HO} (h : a ≠ b) : upd (upd H a o) b u = upd (upd H b u) a o := by
  funext c
  by_cases h1 : c = a
  · rw [h1, upd_ne h, upd_same, upd_same]
  · rw [upd_ne h1]
    by_cases h2 : c = b
    · rw [h2, upd_same, upd_same]
    · rw [upd_ne h2, upd_ne h2, upd_ne h1]
theorem xat_mk {P : Program} {w : World} {K : PySem.W.Frag} {mg : Str → Option Value} {base : Heap} {cl : Cl} {C qual : Str} {a fI : Addr} {fd : FuncData} {st : Stmt} {p p1 p2 p3 : Pos} (T : OexC K a) (hcl : cl.f C = some a) (gm : mg C = some (.ref a))
    (iC : PySem.W.findIn K (.ref a) "__init__" = some (some (.ref fI))) (tI : PySem.W.typeIn K (.ref fI) = some (.type "function")) (hno : PySem.W.findIn K (.ref a) "at" = some none)
    (F : Fun K "__init__" qual st fI fd) (S : FnScope ["self", "at"] ["self", "at"] (defScope st)) (bn : Binds K fd ["self", "at"] []) (hb : defBody st = [.Assign [.Attribute (.Name "self" p1) "at" p2] (.Name "at" p3) p])
    (v1 : Vis (defScope st) "self") (v2 : Vis (defScope st) "at")
    (hs : ∀ X : Cx, X.env.scope = defScope st → swapsWith (.Name "at" p3) (some (.Attribute (.Name "self" p1) "at" p2)) p.line X.env = pure false) : XAt P w K mg base cl C 1 := by
  refine ⟨a, fI, fd, ["self", "at"], hcl, gm, T, iC, tI, bn, F.ok S (fun vs H Q E ⟨x, v, e, _⟩ => by rw [e] <;> rfl) fun cdv A outer s H vs Q E hr ⟨x, v, e, hx, q⟩ => ?_⟩
  subst e
  rw [hb]
  refine ⟨_, pss_one (ps_ost (pe_var (i := 0) rfl v1 (by decide) (by decide)) (pe_var (i := 1) rfl v2 (by decide) (by decide)) (hs _ rfl)), ?_⟩
  refine ⟨v, rfl, .ref x, rfl, x, a, rfl, T, hno, .inl ⟨hx, fun dx hd ne => ?_⟩⟩
  have := q dx hd ne
  rw [upd_comm (Ne.symm ne)] at this
  exact this
end VL
end

noncomputable section
namespace VL
open PySem PySem.Spec PyProof.Rows L2

/-! ### try with any clauses, named or not -/
abbrev HdT := Value × Option Nat × (Addr → Value → Option Addr → TS)
/-- the ends of a suite: its name is gone -/
def endsOf : Option Nat → Ends → Ends
  | none, D => D
  | some i, D => { nx := fun u q => D.nx (u.set i none) q, rt := D.rt, bk := fun u q => D.bk (u.set i none) q, ct := fun u q => D.ct (u.set i none) q }
def slotOf : Option Nat → Addr → L2.St → L2.St
  | none, _, σ => σ
  | some i, a, σ => σ.set i (some (.ref a))
/-- what the clauses wish, one behind the other -/
def wAll (K : PySem.W.Frag) (Wo : WX) (D : Ends) : List HdT → WX
  | [] => Wo
  | (c, o, ts) :: l => fun cls d σ H => ∃ b, PySem.W.exmOne K cls c = some b ∧ (b = true → ∀ a, H a = none → ts a cls d (endsOf o D) (slotOf o a σ) H) ∧ (b = false → wAll K Wo D l cls d σ H)
inductive HdsAll (X : Cx) : List ExceptHandler → List HdT → Prop
  | nil : HdsAll X [] []
  | bare {x : Str} {c : Value} {ts : Addr → Value → Option Addr → TS} {b0 : Stmt} {su : List Stmt} {p1 p2 : Pos} {hds : List ExceptHandler} {l : List HdT} (hc : Names X x c)
      (hsu : ∀ (a : Addr) (oe : Obj) (cls : Value) (d : Option Addr) (pn : List (Addr × Obj)), Zc cls d oe → (∃ vs, oe.data = .fields vs) → PSs (X.suite a ((a, oe) :: pn)) (b0 :: su) (ts a cls d)) (rest : HdsAll X hds l) :
      HdsAll X (.ExceptHandler (some (.Name x p1)) none (b0 :: su) p2 :: hds) ((c, none, ts) :: l)
  | named {x n : Str} {i : Nat} {c : Value} {ts : Addr → Value → Option Addr → TS} {b0 : Stmt} {su : List Stmt} {p1 p2 : Pos} {hds : List ExceptHandler} {l : List HdT} (hN : X.N.Nodup) (hi : X.N[i]? = some n) (hl : X.env.kindOf n = some .local) (hc : Names X x c)
      (hsu : ∀ (a : Addr) (oe : Obj) (cls : Value) (d : Option Addr) (pn : List (Addr × Obj)), Zc cls d oe → (∃ vs, oe.data = .fields vs) → PSs (X.suite a ((a, oe) :: pn)) (b0 :: su) (ts a cls d)) (rest : HdsAll X hds l) :
      HdsAll X (.ExceptHandler (some (.Name x p1)) (some n) (b0 :: su) p2 :: hds) ((c, some i, ts) :: l)
section
variable {X : Cx} {body : List Stmt} {hd0 : ExceptHandler} {hds : List ExceptHandler} {l : List HdT} {pos : Pos} {tb : WX → TS} {Wo : WX}
theorem ps_try_all (st : X.stack = X.env :: X.outer) (fr : X.env.frame = some X.env.locals) (tk : Takes X Wo)
    (hbody : ∀ (W : WX) (pn : List (Addr × Obj)) (xe : Value → Shared → Prop), Takes (X.tr pn xe) W → PassesOwn (model X.prog X.w) X.A X.env xe → PSs (X.tr pn xe) body (tb W))
    (hall : HdsAll X (hd0 :: hds) l) : PS X (.Try body (hd0 :: hds) [] [] pos) (fun D σ H => tb (wAll X.K Wo D l) D σ H) := by
  refine ⟨fun pins s σ H D I hq0 => ?_⟩
  have okX := I.ok
  have framesX : X.A.frames = some (X.env :: X.outer) := by rw [okX.frames, st]
  refine wpAny_Try_except ?_
  refine wpAny_mono ((hbody (wAll X.K Wo D l) (X.pn ++ pins) (fun ex w1 => wpAny (model X.prog X.w) X.A (noteFrame ex X.env) (fun _ w2 => wpAny (model X.prog X.w) X.A (setFlight ex none) (fun _ w3 =>
    wpAny (model X.prog X.w) X.A (handleBy ex X.env (hd0 :: hds)) (SP X pins D) X.xe w3) X.xe w2) X.xe w1) (fun u s2 caught => ?_) PassesOwn.looking).run [] s σ H D (I.toTry _) hq0) (fun fl w1 done => ?_) (fun ex w1 z => z)
  · obtain ⟨a, B, sI, pins2, σ2, H2, cls, d, rfl, J0, nbare, upw, skyw, fresh, oseq, agr, want⟩ := caught
    have J : Inv X pins σ2 H2 sI := J0.ofTry okX
    have skyx : Sky B (X.env :: X.outer) a (Zc cls d) X.env.locals s2.heap := by rw [← st]; exact skyw
    show wpAny (model X.prog X.w) X.A (noteFrame (.ref a) X.env) _ _ _
    refine Sky.land Zc.steady framesX fr skyx fun hp3 fly3 up3 => ?_
    have JL : Inv X pins σ2 H2 { s2 with heap := hp3 } := J.landed nbare fly3.1 (upw.trans up3) oseq agr
    obtain ⟨oe3, vs3, get3, zc3, dat3⟩ := fly3.there
    have apart : ∀ {h : Heap} {o : Obj} {vs : Array Value}, h.FunFrames B (X.env :: X.outer) → h.get? a = some o → o.data = .fields vs → a ∉ frs (X.env :: X.outer) := fun {h o vs} ff eo ed mem => by
      obtain ⟨_, o2, eo2, no⟩ := ff.mem mem
      cases eo.symm.trans eo2
      exact no _ ed
    have nfr := apart fly3.2.2.1 get3 dat3
    have nloc : a ≠ X.env.locals := fun z => nfr (List.mem_filterMap.mpr ⟨X.env, List.mem_cons_self, by rw [fr, z]⟩)
    have nout : a ∉ X.fs := fun mem => by
      obtain ⟨en, hen, qen⟩ := List.mem_filterMap.mp mem
      exact nfr (List.mem_filterMap.mpr ⟨en, List.mem_cons_of_mem _ hen, qen⟩)
    have JS := JL.suite get3 dat3 fresh nloc nout
    have LT : PySem.W.Looks (model X.prog X.w) hp3 (typeOf (.ref a)) cls := fun A Q E s k q => wpAny_typeOf_ref (k _ _ get3) (by rw [zc3.1]; exact q)
    -- a clause's class is looked up
    have clause : ∀ {x : Str} {c : Value} {np : Pos}, Names X x c → ∀ {Q : Value → Shared → Prop} {E : Value → Shared → Prop}, Q c { s2 with heap := hp3 } → wpAny (model X.prog X.w) (X.A.mark (some (.ref a))) (eval (.Name x np) X.env) Q E { s2 with heap := hp3 } := fun {x c np} hc {Q E} q => by
      obtain ⟨gx, dx, gm | ⟨gm, gv, nn⟩⟩ := hc
      · exact ld_glob (X := X.suite a ((a, oe3) :: (X.pn ++ pins))) JS gx gm q dx
      · exact ld_blt (X := X.suite a ((a, oe3) :: (X.pn ++ pins))) JS gx gm gv q nn dx
    have go : ∀ {hs2 : List ExceptHandler} {l2 : List HdT}, HdsAll X hs2 l2 → wAll X.K Wo D l2 cls d σ2 H2 →
        wpAny (model X.prog X.w) X.A (handleBy (.ref a) X.env hs2) (SP X pins D) X.xe { s2 with heap := hp3 } := by
      intro hs2 l2 hk
      induction hk with
      | nil =>
        intro wn
        refine wpAny_handleBy_nil ?_
        obtain ⟨_, _, _, oe, vs, T, oT, ts9, geto, zco, dato, first, _⟩ := id fly3
        unfold PySem.passOn
        refine wpAny_bind (wpAny_field geto dato first ?_)
        rw [if_neg (show ¬ ((Value.ref T == Value.none) = true) from by simp)]
        have out : wpAny (model X.prog X.w) X.A (setFlight (.ref a) X.env.frame) (fun _ w4 => wpAny (model X.prog X.w) X.A (throw (.ref a) : Sem Flow) (SP X pins D) X.xe w4) X.xe { s2 with heap := hp3 } := by
          rw [fr]
          refine HandSPX.setFlight_upZ fly3 fun hp4 hh4 up4 => wpAny_throw (tk _ _ ?_)
          exact ⟨a, B, sI, pins, σ2, H2, cls, d, rfl, J, nbare, (upw.trans up3).trans up4, .inr (.inr (by rw [st]; exact hh4)), fresh, oseq, agr, wn⟩
        first
          | exact wpAny_bind (wpAny_pure (wpAny_bind out))
          | exact wpAny_bind out
      | @bare x c ts b0 su p1 p2 hds2 l2 hc hsu rest ih =>
        intro wn
        obtain ⟨b, eb, yes, no⟩ := wn
        refine wpAny_handleBy_cons (codeAny_handlers_test ?_) (by intro q; cases q)
        have LM := PySem.W.exm_one (M := model X.prog X.w) JL.kIn LT eb
        refine clause hc (LM.here ?_)
        cases b with
        | false => exact ih (no rfl)
        | true =>
          refine codeAny_handlers_suite ?_
          refine HandSPX.lands_againZ fly3 fun hp4 fly4 up4 => ?_
          have J4 : Inv X pins σ2 H2 { s2 with heap := hp4 } := J.landed nbare fly4.1 ((upw.trans up3).trans up4) oseq agr
          obtain ⟨oe4, vs4, get4, zc4, dat4⟩ := fly4.there
          have S4 := J4.suite get4 dat4 fresh nloc nout
          refine wpAny_mono ((hsu a oe4 cls d (X.pn ++ pins) zc4 ⟨_, dat4⟩).run [] _ _ H2 _ S4 (yes rfl a fresh)) (fun fl w6 e6 => ?_) (fun _ _ z => False.elim z)
          cases fl with
          | next => exact let ⟨σ6, H6, S6, q6⟩ := e6; ⟨σ6, H6, S6.unsuite okX, q6⟩
          | brk => exact let ⟨σ6, H6, S6, q6⟩ := e6; ⟨σ6, H6, S6.unsuite okX, q6⟩
          | cont => exact let ⟨σ6, H6, S6, q6⟩ := e6; ⟨σ6, H6, S6.unsuite okX, q6⟩
          | ret u => exact let ⟨v6, σ6, H6, S6, r6, q6⟩ := e6; ⟨v6, σ6, H6, S6.unsuite okX, r6, q6⟩
      | @named x n i c ts b0 su p1 p2 hds2 l2 hN hi hl hc hsu rest ih =>
        intro wn
        obtain ⟨b, eb, yes, no⟩ := wn
        refine wpAny_handleBy_cons (codeAny_handlers_test ?_) (by intro q; cases q)
        have LM := PySem.W.exm_one (M := model X.prog X.w) JL.kIn LT eb
        refine clause hc (LM.here ?_)
        cases b with
        | false => exact ih (no rfl)
        | true =>
          refine codeAny_handlers_suite_as ?_
          refine HandSPX.lands_againZ fly3 fun hp4 fly4 up4 => ?_
          have J4 : Inv X pins σ2 H2 { s2 with heap := hp4 } := J.landed nbare fly4.1 ((upw.trans up3).trans up4) oseq agr
          obtain ⟨oe4, vs4, get4, zc4, dat4⟩ := fly4.there
          have S4 := J4.suite get4 dat4 fresh nloc nout
          refine store_ok (X := X.suite a ((a, oe4) :: (X.pn ++ pins))) (v := .ref a) S4 hN hi (.inl hl) rfl (fun s5 S5 => ?_) (.inr hl)
          refine wpAny_mono ((hsu a oe4 cls d (X.pn ++ pins) zc4 ⟨_, dat4⟩).run [] s5 _ H2 _ S5 (yes rfl a fresh)) (fun fl w6 e6 => ?_) (fun _ _ z => False.elim z)
          have gone : ∀ {σ6 : L2.St} {H6 : Hp} {Q : Shared → Prop}, Inv (X.suite a ((a, oe4) :: (X.pn ++ pins))) [] σ6 H6 w6 → (∀ s7, Inv X pins (σ6.set i none) H6 s7 → Q s7) →
              wpAny (model X.prog X.w) X.A (do bindName X.env n .none; unbindBehindTheSuite X.env n p2) (fun _ s7 => Q s7) X.xe w6 := fun {σ6 H6 Q} S6 hq => gone_ok (S6.unsuite okX) hN hi hl hq
          cases fl with
          | next => exact let ⟨σ6, H6, S6, q6⟩ := e6; gone S6 fun s7 J7 => ⟨_, _, J7, q6⟩
          | brk => exact let ⟨σ6, H6, S6, q6⟩ := e6; gone S6 fun s7 J7 => ⟨_, _, J7, q6⟩
          | cont => exact let ⟨σ6, H6, S6, q6⟩ := e6; gone S6 fun s7 J7 => ⟨_, _, J7, q6⟩
          | ret u => exact let ⟨v6, σ6, H6, S6, r6, q6⟩ := e6; gone S6 fun s7 J7 => ⟨_, _, _, J7, r6, q6⟩
    exact go hall want
  · cases fl with
    | next => exact let ⟨σ6, H6, S6, q6⟩ := done; wpAny_execs_nil ⟨σ6, H6, S6.ofTry okX, q6⟩
    | brk => exact let ⟨σ6, H6, S6, q6⟩ := done; ⟨σ6, H6, S6.ofTry okX, q6⟩
    | cont => exact let ⟨σ6, H6, S6, q6⟩ := done; ⟨σ6, H6, S6.ofTry okX, q6⟩
    | ret u => exact let ⟨v6, σ6, H6, S6, r6, q6⟩ := done; ⟨v6, σ6, H6, S6.ofTry okX, r6, q6⟩
end
end VL
end

noncomputable section
namespace VL
open PySem PySem.Spec PyProof.Rows L2

/-! ### try over plain functions -/
structure Hdl where
  cls : Str
  slot : Option Nat
  m : Exc → Sl → O
/-- an own exception of class C is caught by a clause for D -/
def subX (C D : Str) : Bool := C == D || D == "CreelError"
@[simp] def unsetO (i : Nat) : O → O
  | .nx r => .nx (r.set i none)
  | .rt d r => .rt d r
  | _ => .stuck
@[simp] def calmO : O → O
  | .exc _ _ => .stuck
  | o => o
def runH (h : Hdl) (x : Exc) (r : Sl) : O := match h.slot with
  | none => calmO (h.m x r)
  | some i => unsetO i (h.m x (r.set i (some .non)))
def handle : List Hdl → Exc → Sl → O
  | [], x, r => .exc x r
  | h :: hs, x, r => if subX x.cls h.cls then runH h x r else handle hs x r
@[simp] def mTry (mb : Sl → O) (hs : List Hdl) : Sl → O := fun r => match mb r with
  | .exc x r' => handle hs x r'
  | o => o
/-- what is known of a clause's class -/
structure HSub (K : PySem.W.Frag) (mg : Str → Option Value) (cl : Cl) (D : Str) : Prop where
  ex : ∃ a, mg D = some (.ref a) ∧ ∀ C c, cl.f C = some c → PySem.W.exmOne K (.ref c) (.ref a) = some (subX C D)
theorem StRel.putAdr {E : En} {Hs H : Hp} {ks : List Kd} {r : Sl} {σ : L2.St} {i : Nat} {k : Kd} (a : Addr) (S : StRel E Hs H ks r σ) (hk : ks[i]? = some k) : StRel E Hs H (ks.set i (.adr a)) (r.set i (some .non)) (σ.set i (some (.ref a))) := by
  obtain ⟨As, S⟩ := S
  obtain ⟨pre, A, post, e, _, f, _, _⟩ := S.sl.at_ i hk
  have sub : (pre ++ ([] ++ post)).Sublist As := by
    rw [e]
    exact List.Sublist.append (List.Sublist.refl _) (by rw [List.nil_append]; exact List.sublist_append_right _ _)
  exact ⟨_, f (.adr a) .non (.ref a) [] .adr, S.nd.sublist sub, fun a ha => S.dis a (sub.subset ha), S.es, S.sub, S.eb, S.new, S.dom, S.tb⟩
section
variable {X : Cx} {E : En} {kr : Kd} {fin : List Kd → Prop} {ks ks' : List Kd}
/-- the clauses: ks the slots where the body raises, ks' behind the suites -/
inductive HB (X : Cx) (E : En) (kr : Kd) (fin : List Kd → Prop) (ks : List Kd) : List ExceptHandler → List Hdl → List Kd → Prop
  | nil {ks' : List Kd} : HB X E kr fin ks [] [] ks'
  | bare {D : Str} {b0 : Stmt} {su : List Stmt} {p1 p2 : Pos} {hds : List ExceptHandler} {hs : List Hdl} {m : Exc → Sl → O} {ks' : List Kd} (T : HSub X.K X.mg E.cl D) (hq : NmOk D) (hg : Gl X D)
      (su_ok : ∀ (a : Addr) (oe : Obj) (cls : Value) (dd : Option Addr) (pn : List (Addr × Obj)) (s : Hp) (x : Exc), Zc cls dd oe → (∃ vs, oe.data = .fields vs) → XRep E.cl s s x cls dd → subX x.cls D = true →
        SB (X.suite a ((a, oe) :: pn)) (E.at_ s) kr fin ks (b0 :: su) (m x) ks') (rest : HB X E kr fin ks hds hs ks') :
      HB X E kr fin ks (.ExceptHandler (some (.Name D p1)) none (b0 :: su) p2 :: hds) (⟨D, none, m⟩ :: hs) ks'
  | named {D n : Str} {i : Nat} {k0 : Kd} {b0 : Stmt} {su : List Stmt} {p1 p2 : Pos} {hds : List ExceptHandler} {hs : List Hdl} {m : Exc → Sl → O} {ks' : List Kd} (hN : X.N.Nodup) (hi : X.N[i]? = some n) (hl : X.env.kindOf n = some .local) (hk : ks[i]? = some k0)
      (T : HSub X.K X.mg E.cl D) (hq : NmOk D) (hg : Gl X D)
      (su_ok : ∀ (a : Addr) (oe : Obj) (cls : Value) (dd : Option Addr) (pn : List (Addr × Obj)) (s : Hp) (x : Exc), Zc cls dd oe → (∃ vs, oe.data = .fields vs) → XRep E.cl s s x cls dd → subX x.cls D = true →
        ∃ ks2 k2, ks2[i]? = some k2 ∧ ks' = ks2.set i .val ∧ SB (X.suite a ((a, oe) :: pn)) (E.at_ s) kr fin (ks.set i (.adr a)) (b0 :: su) (m x) ks2) (rest : HB X E kr fin ks hds hs ks') :
      HB X E kr fin ks (.ExceptHandler (some (.Name D p1)) (some n) (b0 :: su) p2 :: hds) (⟨D, some i, m⟩ :: hs) ks'
/-- a suite's reading -/
def tsN (E : En) (kr : Kd) (fin : List Kd → Prop) (ks ks' : List Kd) (D : Str) (m : Exc → Sl → O) : Addr → Value → Option Addr → TS := fun a cls d Dn σ H =>
  ∃ Hs x r, XRep E.cl Hs Hs x cls d ∧ subX x.cls D = true ∧ StRel (E.at_ Hs) Hs H ks r σ ∧ PostS (E.at_ Hs) ks' kr fin (fun _ _ _ _ => False) Dn (m x r)
def tsA (E : En) (kr : Kd) (fin : List Kd → Prop) (ks ks' : List Kd) (i : Nat) (D : Str) (m : Exc → Sl → O) : Addr → Value → Option Addr → TS := fun a cls d Dn σ H =>
  ∃ Hs x r, XRep E.cl Hs Hs x cls d ∧ subX x.cls D = true ∧ StRel (E.at_ Hs) Hs H (ks.set i (.adr a)) r σ ∧ ∀ ks2 k2, ks2[i]? = some k2 → ks' = ks2.set i .val → PostS (E.at_ Hs) ks2 kr fin (fun _ _ _ _ => False) Dn (m x r)
theorem XRep.anyH {cl : Cl} {Hs H H' : Hp} {x : Exc} {c : Value} {dd : Option Addr} (h : XRep cl Hs H x c dd) : XRep cl Hs H' x c dd := h
theorem hb_all {hds : List ExceptHandler} {hs : List Hdl} (hfin : fin ks) (hh : HB X E kr fin ks hds hs ks') : ∃ l, HdsAll X hds l ∧ ∀ (W : WX) (Dn : Ends) (x : Exc) (Hs H : Hp) (σ : L2.St) (c : Value) (dd : Option Addr) (r : Sl),
    StRel E Hs H ks r σ → XRep E.cl Hs H x c dd → PostS E ks' kr fin W Dn (handle hs x r) → wAll X.K W Dn l c dd σ H := by
  induction hh with
  | nil => exact ⟨[], .nil, fun W Dn x Hs H σ c dd r S xr P => P Hs H σ c dd ks hfin S xr⟩
  | @bare D b0 su p1 p2 hds hs m ks' T hq hg su_ok rest ih =>
    obtain ⟨l, h1, h2⟩ := ih
    obtain ⟨aD, g1, g2⟩ := T.ex
    refine ⟨(.ref aD, none, tsN E kr fin ks ks' D m) :: l, .bare ⟨hg, hq.1, .inl g1⟩ (fun a oe cls d pn hz hf => ⟨fun pins s σ H Dn I hx => ?_⟩) h1, fun W Dn x Hs H σ c dd r S xr P => ?_⟩
    · obtain ⟨Hs, x, r, xr, sx, S, P⟩ := hx
      exact (wss_of pss_ws ((su_ok a oe cls d pn Hs x hz hf xr sx).run Hs H r σ _ Dn takesF S P)) pins s I
    · obtain ⟨a, e1, e2, e3⟩ := xr
      have xr' : XRep E.cl Hs Hs x c dd := ⟨a, e1, e2, e3⟩
      refine ⟨subX x.cls D, by rw [e2]; exact g2 _ _ e1, fun hb a0 na => ?_, fun hb => h2 W Dn x Hs H σ c dd r S ⟨a, e1, e2, e3⟩ ?_⟩
      · refine ⟨Hs, x, r, xr', hb, S.down, ?_⟩
        have P' : PostS E ks' kr fin W Dn (calmO (m x r)) := by
          unfold handle at P
          rw [if_pos hb] at P
          exact P
        have F := S.facts
        cases q : m x r with
        | stuck => rw [q] at P'; exact P'
        | exc y r' => rw [q] at P'; exact P'.elim
        | nx r' => rw [q] at P'; exact fun Hs4 H4 σ4 S4 => P' Hs4 H4 σ4 (S4.up F.1 F.2.2.1)
        | rt d r' => rw [q] at P'; exact fun Hs4 H4 σ4 v ks2 z S4 => P' Hs4 H4 σ4 v ks2 z (S4.up F.1 F.2.2.1)
      · unfold handle at P
        rw [if_neg (by simp [hb])] at P
        exact P
  | @named D n i k0 b0 su p1 p2 hds hs m ks' hN hi hl hk T hq hg su_ok rest ih =>
    obtain ⟨l, h1, h2⟩ := ih
    obtain ⟨aD, g1, g2⟩ := T.ex
    refine ⟨(.ref aD, some i, tsA E kr fin ks ks' i D m) :: l, .named hN hi hl ⟨hg, hq.1, .inl g1⟩ (fun a oe cls d pn hz hf => ⟨fun pins s σ H Dn I hx => ?_⟩) h1, fun W Dn x Hs H σ c dd r S xr P => ?_⟩
    · obtain ⟨Hs, x, r, xr, sx, S, P⟩ := hx
      obtain ⟨ksu, ku, e1, e2, sb⟩ := su_ok a oe cls d pn Hs x hz hf xr sx
      exact (wss_of pss_ws (sb.run Hs H r σ _ Dn takesF S (P ksu ku e1 e2))) pins s I
    · obtain ⟨a, e1, e2, e3⟩ := xr
      have xr' : XRep E.cl Hs Hs x c dd := ⟨a, e1, e2, e3⟩
      refine ⟨subX x.cls D, by rw [e2]; exact g2 _ _ e1, fun hb a0 na => ?_, fun hb => h2 W Dn x Hs H σ c dd r S ⟨a, e1, e2, e3⟩ ?_⟩
      · refine ⟨Hs, x, r.set i (some .non), xr', hb, S.down.putAdr a0 hk, fun ksu ku eu ek => ?_⟩
        have P' : PostS E ks' kr fin W Dn (unsetO i (m x (r.set i (some .non)))) := by
          unfold handle at P
          rw [if_pos hb] at P
          exact P
        have F := S.facts
        cases q : m x (r.set i (some .non)) with
        | stuck => rw [q] at P'; exact P'
        | exc y r' => rw [q] at P'; exact P'.elim
        | nx r' =>
          rw [q] at P'
          intro Hs4 H4 σ4 S4
          have S5 := (S4.up F.1 F.2.2.1).wipe1 (k' := .val) eu none
          rw [← ek] at S5
          exact P' Hs4 H4 _ S5
        | rt d r' => rw [q] at P'; exact fun Hs4 H4 σ4 v ks2 z S4 => P' Hs4 H4 σ4 v ks2 z (S4.up F.1 F.2.2.1)
      · unfold handle at P
        rw [if_neg (by simp [hb])] at P
        exact P
theorem ss_try {body : List Stmt} {hd0 : ExceptHandler} {hds : List ExceptHandler} {hs : List Hdl} {mb : Sl → O} {pos : Pos} (hbody : ∀ (pn : List (Addr × Obj)) (xe : Value → Shared → Prop), PassesOwn (model X.prog X.w) X.A X.env xe → SB (X.tr pn xe) E kr (fun k => k = ks ∧ fin k) ks body mb ks')
    (hh : HB X E kr fin ks (hd0 :: hds) hs ks') (hf : fin ks := by trivial) (st : X.stack = X.env :: X.outer := by rfl) (fr : X.env.frame = some X.env.locals := by rfl) : SS X E kr fin ks (.Try body (hd0 :: hds) [] [] pos) (mTry mb hs) ks' := by
  refine ⟨fun Hs H r σ W Dn tk S P => ?_⟩
  obtain ⟨l, h1, h2⟩ := hb_all hf hh
  refine ws_of (ps_try_all (tb := fun W D σ H => ∃ Hs r, StRel E Hs H ks r σ ∧ PostS E ks' kr (fun k => k = ks ∧ fin k) W D (mb r)) st fr tk (fun W pn xe tk2 hp => ⟨fun pins s σ H D I hx => ?_⟩) h1) ?_
  · obtain ⟨Hs, r, S, P⟩ := hx
    exact (wss_of pss_ws ((hbody pn xe hp).run Hs H r σ W D tk2 S P)) pins s I
  · refine ⟨Hs, r, S, ?_⟩
    have P' : PostS E ks' kr fin W Dn (match mb r with
      | .exc x r' => handle hs x r'
      | o => o) := P
    cases q : mb r with
    | stuck => rw [q] at P'; exact P'
    | nx r' => rw [q] at P'; exact P'
    | rt d r' => rw [q] at P'; exact fun Hs4 H4 σ4 v ks2 z S4 => P' Hs4 H4 σ4 v ks2 z.2 S4
    | exc x r' =>
      rw [q] at P'
      intro Hs4 H4 σ4 c dd ks2 z S4 xr
      obtain ⟨z1, z2⟩ := z
      subst z1
      exact h2 W Dn x Hs4 H4 σ4 c dd r' S4 xr P'
/-- e.at in a suite -/
def gAt (i : Nat) (x : Exc) : Sl → R D := fun r => match r[i]?, x.at_ with
  | some (some _), some d => .ok d
  | _, _ => .stuck
structure XfAt (K : PySem.W.Frag) (cl : Cl) (D : Str) : Prop where
  f : ∀ a, cl.f D = some a → XfC K a ∧ PySem.W.findIn K (.ref a) "at" = some none
theorem se_excAt {a : Addr} {oe : Obj} {cls : Value} {dd : Option Addr} {pn : List (Addr × Obj)} {s : Hp} {x : Exc} {i : Nat} {n D : Str} {p1 p2 : Pos} {ks : List Kd} (hz : Zc cls dd oe) (hf : ∃ vs, oe.data = .fields vs) (xr : XRep E.cl s s x cls dd) (hx : subX x.cls D = true) (hD : D ≠ "CreelError" := by decide) (T : XfAt X.K E.cl D)
    (hq : NmOk n) (hk : ks[i]? = some (.adr a) := by rfl) (hN : X.N[i]? = some n := by rfl) (hv : Vis X.env.scope n := by first | exact Or.inl rfl | exact Or.inr (Or.inl rfl) | exact Or.inr (Or.inr rfl))
    (hb : ∀ p, attributeBase (.Name n p) "at" X.env (eval (.Name n p) X.env) = eval (.Name n p) X.env := by intro _; rfl) :
    SE (X.suite a ((a, oe) :: pn)) (E.at_ s) ks .val (.Attribute (.Name n p1) "at" p2) (gAt i x) := by
  refine ⟨fun Hs H r σ W Q tk S P => ?_⟩
  have ex : x.cls = D := by
    unfold subX at hx
    rcases Bool.or_eq_true_iff.mp hx with z | z
    · exact by simpa using z
    · exact absurd (by simpa using z) hD
  obtain ⟨ac, e1, e2, e3⟩ := xr
  rw [ex] at e1
  have TT := T.f _ e1
  unfold gAt at P
  cases q1 : r[i]? with
  | none => rw [q1] at P; exact P.elim
  | some o =>
    cases o with
    | none => rw [q1] at P; exact P.elim
    | some d0 =>
      cases q2 : x.at_ with
      | none => rw [q1, q2] at P; exact P.elim
      | some d =>
        rw [q1, q2] at P
        rw [q2] at e3
        obtain ⟨p, v, f1, f2, f3⟩ := e3
        obtain ⟨w, A, ew, ow⟩ := S.get hk q1
        cases ow
        have es : Same s Hs := S.facts.1
        refine we_of (pe_xf TT.1 TT.2 hz hf (pe_var (i := i) hN hv hq.1 hq.2) (hb _)) ?_
        refine ⟨.ref a, ew, rfl, e2, p, [("at", v)], v, f1, S.sub.at _ _ (es.at _ _ f2), ?_, P v Hs H (Grow.refl S.sub) (RK.val (Rep.same es _ _ f3))⟩
        simp [List.lookup]
end
end VL
end

noncomputable section
namespace VL
open PySem PySem.Spec PyProof.Rows L2

/-! ### a lambda without parameters, made and handed to a def -/
section
variable {X : Cx} {pins : List (Addr × Obj)} {σ : L2.St} {H : Hp} {s : Shared}
theorem codeO_tbl {c : Addr} {q : Str} (ps : Array Value) : LamX.CodeO c q ≠ .tbl ps := fun z => by
  unfold LamX.CodeO at z
  cases z
theorem lam_mk {c P : Addr} {params : Arguments} {body : Expr} {scope : Scope} {pos : Pos} {E : Value → Shared → Prop} {Q : Value → Shared → Prop} (I : Inv X pins σ H s) (TB : LamX.TabB X.base X.mg c P) (hcode : X.env.code = .ref c)
    (hq : X.env.qual ++ "<lambda>" = lamQ) (hT : LamX.TabS H P lamQ) (hdef : defaultsOf params X.env = ([], [])) (hfree : ∀ y ∈ scope.names, y.2 = .free → ∃ c, X.env.cells.lookup y.1 = some c)
    (goal : ∀ (f cN : Addr) (pm ctv : Value) (H1 : Hp) (s1 : Shared), Inv X pins σ H1 s1 → Same H H1 → (∀ B, LamX.TabS H B lamQ → LamX.TabS H1 B lamQ) →
      s1.heap.get? f = some (PySem.W.kla_obj "<lambda>" (X.env.qual ++ "<lambda>") params body scope (cloFrom X.env.cells scope.names []) pm cN ctv) → H1 f = none → f ∉ frs X.stack → H1 cN = some (LamX.CodeO cN (X.env.qual ++ "<lambda>")) → Q (.ref f) s1) :
    wpAny (model X.prog X.w) X.A (eval (.Lambda params body scope pos) X.env) Q E s := by
  rw [← hq] at hT
  obtain ⟨ps, atP, trip, known⟩ := hT
  refine PySem.W.kla_eval hdef ?_
  have bmP : s.heap.BuiltinsAt X.mg P := TB.bm.keeps I.bk
  have realP : s.heap.get? P = some { cls := .none, data := .fields ps } := I.hok P _ atP
  have frameless : ∀ f, s.heap.objs.size ≤ f → f ∉ frs X.stack := fun f le mem => by
    rcases List.mem_cons.mp (I.stkSub _ mem) with e | e
    · have lt := I.lt
      rw [← e] at lt
      exact absurd lt (Nat.not_lt.mpr le)
    · exact I.nofs le e
  cases hit : codeAmong pos ps.toList with
  | some cv =>
    obtain ⟨cN, e, hco⟩ := known pos cv hit
    subst e
    refine PySem.W.kla_makeFunctionHit (mg := X.mg) (c := c) (P := P) (ps := ps) (closure_ok hfree) I.ok.glob (I.mod.glob.keeps I.bk) hcode (TB.code.keeps I.bk) realP trip hit bmP fun ctv hN tk ext sz => ?_
    have I1 := I.kept (h' := hN.push (PySem.W.kla_obj "<lambda>" (X.env.qual ++ "<lambda>") params body scope (cloFrom X.env.cells scope.names []) ((X.mg "__name__").getD .none) cN ctv)) (t' := tk) fun b o e => Heap.get?_push_of_some _ (ext b o e)
    exact goal hN.objs.size cN ((X.mg "__name__").getD .none) ctv H _ I1 (Same.refl H) (fun _ z => z) (Heap.get?_push_size _ rfl) (I.hok.fresh sz) (frameless _ sz) hco
  | none =>
    refine PySem.W.kla_makeFunction (mg := X.mg) (c := c) (P := P) (ps := ps) (closure_ok hfree) I.ok.glob (I.mod.glob.keeps I.bk) hcode (TB.code.keeps I.bk) realP trip hit TB.gP bmP fun cN ctv hN tk ext geN ltN recN tabN => ?_
    obtain ⟨c2, oc, us, t, e2, hoc, hdat, hname⟩ := recN
    cases e2
    have szs : s.heap.objs.size ≤ hN.objs.size := Nat.le_trans geN (Nat.le_of_lt ltN)
    have newC : H cN = none := I.hok.fresh geN
    have I1 := LamX.inv_table (t' := tk) (more := #[rawInt pos.line, rawInt pos.col, .ref cN]) (h' := hN.push (PySem.W.kla_obj "<lambda>" (X.env.qual ++ "<lambda>") params body scope (cloFrom X.env.cells scope.names []) ((X.mg "__name__").getD .none) cN ctv)) I atP
      (fun b o nb e => Heap.get?_push_of_some _ (ext b o nb e)) (Heap.get?_push_of_some _ tabN) geN ⟨oc, us, t, Heap.get?_push_of_some _ hoc, hdat, hname⟩
    have PnC : P ≠ cN := ne_of_none atP newC
    have stays : ∀ b o, H b = some o → b ≠ P → upd (upd H P (.tbl (ps ++ #[rawInt pos.line, rawInt pos.col, .ref cN]))) cN (LamX.CodeO cN (X.env.qual ++ "<lambda>")) b = some o := fun b o e nP => by
      rw [upd_ne (ne_of_none e newC), upd_ne nP]
      exact e
    have tabP : upd (upd H P (.tbl (ps ++ #[rawInt pos.line, rawInt pos.col, .ref cN]))) cN (LamX.CodeO cN (X.env.qual ++ "<lambda>")) P = some (.tbl (ps ++ #[rawInt pos.line, rawInt pos.col, .ref cN])) := by rw [upd_ne PnC, upd_same]
    have codeStays : ∀ (d : Addr) (q : Str), H d = some (LamX.CodeO d q) → d ≠ P := fun d q e z => by
      rw [z, atP] at e
      exact codeO_tbl ps (Option.some.inj e).symm
    refine goal hN.objs.size cN ((X.mg "__name__").getD .none) ctv _ _ I1 ⟨fun b o e nt => ?_⟩ (fun B z => ?_) (Heap.get?_push_size _ rfl) ?_ (frameless _ szs) upd_same
    · by_cases hb : b = P
      · subst hb
        rw [tabP] at nt
        rcases nt with nt | nt
        · rw [atP] at e
          exact absurd (Option.some.inj e).symm (nt ps)
        · cases nt
      · exact stays b o e hb
    · obtain ⟨ps2, a1, a2, a3⟩ := z
      by_cases hb : B = P
      · subst hb
        have eL : (ps ++ #[rawInt pos.line, rawInt pos.col, .ref cN]).toList = ps.toList ++ [rawInt pos.line, rawInt pos.col, .ref cN] := by simp
        refine ⟨_, tabP, by rw [eL]; exact PySem.TriplesOk_snoc _ _ _ _ trip, fun p2 cv hcv => ?_⟩
        rw [eL] at hcv
        rcases LamX.among_app _ trip hcv with z | z
        · obtain ⟨c0, e1, e2⟩ := known p2 cv z
          rw [hq] at e2
          exact ⟨c0, e1, stays _ _ e2 (codeStays c0 _ e2)⟩
        · exact ⟨cN, z, by rw [upd_same, hq]⟩
      · refine ⟨ps2, stays _ _ a1 hb, a2, fun p2 cv hcv => ?_⟩
        obtain ⟨c0, e1, e2⟩ := a3 p2 cv hcv
        exact ⟨c0, e1, stays _ _ e2 (codeStays c0 _ e2)⟩
    · have n1 : hN.objs.size ≠ cN := Nat.ne_of_gt ltN
      have n2 : hN.objs.size ≠ P := Nat.ne_of_gt (Nat.lt_of_lt_of_le (Heap.lt_size realP) szs)
      rw [upd_ne n1, upd_ne n2]
      exact I.hok.fresh szs
/-- the lambda is called in the def that got it -/
theorem lam_act {Eg : XK} {CXg : CXT} {Ng : List Str} {qg : Str} {sg : Scope} {g f cN : Addr} {cdg pm ctv : Value} {params : Arguments} {body : Expr} {scope : Scope} {k i : Nat} {a : Str} {pn : List (Addr × Obj)} {xe : Value → Shared → Prop} {W : WX} {tb : XK → TE} {p1 p2 : Pos}
    (I : Inv X pins σ H s) (L : LamX.LamS X.env.scope scope) (hobj : s.heap.get? f = some (PySem.W.kla_obj "<lambda>" (X.env.qual ++ "<lambda>") params body scope (cloFrom X.env.cells scope.names []) pm cN ctv)) (hnone : H f = none) (hframe : f ∉ frs X.stack)
    (hbind : bindArgs (PySem.W.kla_fn "<lambda>" (X.env.qual ++ "<lambda>") params body scope (cloFrom X.env.cells scope.names []) pm (.ref cN) ctv) ⟨[], []⟩ = pure [])
    (tk : Takes ((cxOf CXg X.prog X.w X.K X.mg X.base Ng qg sg g cdg X.A X.stack s H Eg).tr pn xe) W) (hr : Room (k + 1) (X.A.deeper (envOfC qg sg s.heap.objs.size g cdg)))
    (hbody : ∀ (A : Around) (outer : List Env) (s1 : Shared) (H1 : Hp) (Ex : XK), Room k (A.deeper (LamX.lamEnv X scope s1.heap.objs.size f cN)) → PE (LamX.lamCx X A outer s1 H1 Ex scope f cN) body (tb Ex))
    (hN : Ng[i]? = some a) (hv : Vis sg a) (hd : (a == ("__debug__" : Str)) = false) (hcd : (a == ("__classdict__" : Str)) = false) :
    PE ((cxOf CXg X.prog X.w X.K X.mg X.base Ng qg sg g cdg X.A X.stack s H Eg).tr pn xe) (.Call (.Name a p1) [] [] p2)
      (fun τ HZ Q => τ[i]? = some (some (.ref f)) ∧ HZ cN = some (LamX.CodeO cN (X.env.qual ++ "<lambda>")) ∧ tb (WE W τ) σ HZ Q) := by
  refine ⟨fun pinsZ sZ τ HZ Q IZ want => ?_⟩
  obtain ⟨atF, atC, rest⟩ := want
  refine wpAny_Call_Name_kw (thn ((pe_var (pos := p1) (i := i) hN hv hd hcd).run pinsZ sZ τ HZ (fun v H1 => v = .ref f ∧ H1 = HZ) IZ ⟨.ref f, atF, rfl, rfl⟩) fun u s1 got => ?_)
  obtain ⟨v, H1, I1, rv, ev, eH⟩ := got
  subst ev
  rw [eH] at I1
  obtain rfl : u = Value.ref f := rv
  have obj1 : s1.heap.get? f = some (PySem.W.kla_obj "<lambda>" (X.env.qual ++ "<lambda>") params body scope (cloFrom X.env.cells scope.names []) pm cN ctv) := I1.base.keep f _ hobj hnone hframe (fun z => nomatch (show f ∈ ([] : List Addr) from z))
  refine PySem.W.callWith_F0 ⟨_, _, _, _, obj1⟩ ?_
  have un : Un (frs X.stack) [] H HZ s.heap s1.heap := I1.base
  obtain ⟨⟨oc, us, t, eoc, edat, ename⟩, _, _⟩ := I1.hok cN _ atC
  have ran : codeAny (model X.prog X.w) (X.A.deeper (envOfC qg sg s.heap.objs.size g cdg)) (.call (.ref f) ⟨[], []⟩) (CR (L2.CX X.prog X.w) (envOfC qg sg s.heap.objs.size g cdg :: X.stack) X.prog X.w HZ s1 Q (WE W τ)) s1 := by
    refine PySem.W.kla_callFunE hr.depth obj1 rfl L.co L.gen rfl ⟨cN, oc, us, t, rfl, eoc, edat, ename⟩ ?_
    rw [hbind]
    refine wpAny_pure (wpAny_newFunctionEnv (fun y hy => (L.own y hy).2) (fun y hy => absurd hy (by simp)) (fun h2 ns2 bl2 => ⟨I1.nolimit.fresh _ bl2, ?_⟩) L.kind)
    show codeAny _ _ (.expr body (LamX.lamEnv X scope s1.heap.objs.size f cN)) _ _
    have kept : ∀ b o, s1.heap.get? b = some o → h2.get? b = some o := fun b o e => bl2.extBut b o (Nat.ne_of_lt (Heap.lt_size e)) (Heap.get?_push_of_some _ e)
    have J : Inv (LamX.lamCx X (X.A.deeper (envOfC qg sg s.heap.objs.size g cdg)) (envOfC qg sg s.heap.objs.size g cdg :: X.stack) s1 HZ (WE W τ) scope f cN) [] σ HZ { s1 with heap := h2, toks := s1.toks + ([] : List (Str × Value)).length } :=
      LamX.lam_start2 I L I1.env0 hr.hd un ns2 kept
    refine PySem.W.kla_codeExpr (wpAny_mono ((hbody _ _ s1 HZ (WE W τ) (hr.deeper _)).run [] _ _ HZ Q J rest) (fun v s3 got3 => ?_) fun e s3 z => z)
    exact let ⟨w3, H3, J3, r3, q3⟩ := got3; ⟨w3, H3, J3.os, J3.bare, J3.base, J3.hok, r3, q3⟩
  refine wpAny_call (codeAny_mono ran fun res s3 got3 => ?_)
  cases res with
  | error e => exact passAt tk τ pinsZ HZ s1 e s3 I1 got3
  | ok fl =>
    cases fl with
    | next => exact got3.elim
    | brk => exact got3.elim
    | cont => exact got3.elim
    | ret u => exact I1.after got3
end

/-! ### .. by plain functions -/
/-- the call of what a def got -/
def gAsk (ask : R D) : Sl → R D := fun r => match r[0]? with
  | some (some _) => ask
  | _ => .stuck
/-- a def with one parameter that is called -/
def askF (m : R D → Sl → O) (n : Nat) (ask : R D) : R D := outF (m ask (some .non :: List.replicate n none))
theorem se_lam {X : Cx} {E : En} {ks : List Kd} {x a : Str} {g c P : Addr} {k : Nat} {st : Stmt} {fd : FuncData} {Ng : List Str} {params : Arguments} {body : Expr} {scope : Scope} {gb : Sl → R D} {m : R D → Sl → O} {ls : List Kd} {ks' : Addr → List Kd} {p lpos pos : Pos}
    (hm : X.mg x = some (.ref g)) (F : Fun X.K x x st g fd) (Sg : FnScope Ng [a] (defScope st)) (hN : Ng.length = 1 + ls.length) (hb : L2.Binds X.K fd [a] []) (hv : Vis (defScope st) a) (hqa : NmOk a) (hqx : NmOk x)
    (hwhy : ∀ (ask : R D) (f : Addr) (cdv : Value) (s1 : Shared) (H1 : Hp) (Ez : XK) (h0 s0 b0 : Hp), Room (k + 1) (X.A.deeper (envOfC x (defScope st) s1.heap.objs.size g cdv)) →
      (∀ (pn : List (Addr × Obj)) (xe : Value → Shared → Prop) (p1 p2 : Pos) (kz : List Kd), kz[0]? = some (.adr f) → SE ((cxOf (L2.CX X.prog X.w) X.prog X.w X.K X.mg X.base Ng x (defScope st) g cdv X.A X.stack s1 H1 Ez).tr pn xe) ⟨E.cl, h0, s0, b0⟩ kz .val (.Call (.Name a p1) [] [] p2) (gAsk ask)) →
      SB (cxOf (L2.CX X.prog X.w) X.prog X.w X.K X.mg X.base Ng x (defScope st) g cdv X.A X.stack s1 H1 Ez) ⟨E.cl, h0, s0, b0⟩ .val (fun _ => True) (.adr f :: ls) (defBody st) (m ask) (ks' f))
    (TB : LamX.TabB X.base X.mg c P) (hT : LamX.TabS E.h P lamQ) (hcode : X.env.code = .ref c) (hr : Room (k + 2) X.A) (L : LamX.LamS X.env.scope scope)
    (hlam : ∀ (A : Around) (outer : List Env) (s1 : Shared) (H1 : Hp) (Ex : XK) (f cN : Addr), Room k (A.deeper (LamX.lamEnv X scope s1.heap.objs.size f cN)) → SE (LamX.lamCx X A outer s1 H1 Ex scope f cN) E ks .val body gb)
    (nx : ∀ (ask : R D) (y : Exc), askF m ls.length ask ≠ .exc y)
    (hg : Gl X x := by rfl) (hqq : X.env.qual ++ "<lambda>" = lamQ := by rfl) (hdef : defaultsOf params X.env = ([], []) := by rfl)
    (hbind : ∀ (q : Str) (cl : List (Str × Addr)) (pm cv ctv : Value), bindArgs (PySem.W.kla_fn "<lambda>" q params body scope cl pm cv ctv) ⟨[], []⟩ = pure [] := by intro _ _ _ _ _; rfl) :
    SE X E ks .val (.Call (.Name x p) [.Lambda params body scope lpos] [] pos) (fun r => askF m ls.length (gb r)) := by
  refine ⟨fun Hs H r σ W Q tk S Po => ?_⟩
  intro pins s I
  obtain ⟨oc, od, kV, doc, pm, an, cdv, ct, osl, efd, lk, hcg⟩ := F.ex
  subst efd
  refine wpAny_Call_Name_kw (ld_glob I hg hm ?_ hqx.1)
  refine PySem.W.callWith_K (h₀ := X.base) I.ok.mod.kin F.kp ?_ (by rfl) (by rfl)
  show wpAny _ _ (spliced ((false, eval (.Lambda params body scope lpos) X.env) :: backTo pos (starEach [] X.env))) _ _ s
  refine Calls.spliced_cons (lam_mk I TB hcode hqq (S.facts.2.2.2 P hT) hdef (L.has I.ok) fun f cN pmv ctv H1 s1 I1 sm tm hobj hfn hfr hco => ?_)
  refine Calls.spliced_nil ⟨I1.kIn, ?_⟩
  have g1 : Grow Hs H Hs H1 := Grow.same S.sub sm tm
  have ran : codeAny (model X.prog X.w) X.A (.call (.ref g) ⟨[.ref f], []⟩) (CR (L2.CX X.prog X.w) X.stack X.prog X.w H1 s1 Q (fun _ _ _ => False)) s1 := by
    refine LamX.run_ofS (N := Ng) (ps := [a]) (us := [.ref f]) (vs := [.ref f]) lk hcg Sg hr I1.env0 (hb s1 [.ref f] I1.kIn rfl) (.cons rfl .nil) rfl fun hr2 => ?_
    refine ⟨_, pss_ws, ?_⟩
    have tk0 : Takes (cxOf (L2.CX X.prog X.w) X.prog X.w X.K X.mg X.base Ng x (defScope st) g cdv X.A X.stack s1 H1 (fun _ _ _ => False)) (fun _ _ _ _ => False) := takesF
    have hst : L2.start Ng [V.ref f] = some (.ref f) :: List.replicate ls.length none := by
      unfold L2.start
      rw [hN]
      show some (V.ref f) :: List.replicate (1 + ls.length - 1) none = _
      rw [Nat.add_sub_cancel_left]
    have sl : ∀ ls : List Kd, Slots ⟨E.cl, H1, Hs, H1⟩ Hs H1 ls (List.replicate ls.length none) (List.replicate ls.length none) [] := fun ls => by
      induction ls with
      | nil => exact .nil
      | cons k ls ih => exact .skip ih
    have S0 : StRel ⟨E.cl, H1, Hs, H1⟩ Hs H1 (.adr f :: ls) (some .non :: List.replicate ls.length none) (L2.start Ng [V.ref f]) := by
      rw [hst]
      exact ⟨[], .cons (A := []) .adr (sl ls), List.nodup_nil, (fun a ha => nomatch ha), Same.refl _, g1.sub, Same.refl _, fun a z => .inl z, fun a z => z, fun _ z => z⟩
    refine (hwhy (gb r) f cdv s1 H1 _ H1 Hs H1 hr2 (fun pn xe p1 p2 kz hkz => ⟨fun Hs2 H2 r2 τ W2 Q2 tk2 S2 P2 => ?_⟩)).run Hs H1 _ _ _ _ tk0 S0 ?_
    · -- the lambda's call
      refine we_of (lam_act (i := 0) (k := k) (tb := fun Ex σ H Q => ∃ Hs', StRel E Hs' H ks r σ ∧ Post E.cl .val Hs' H Q (fun c d H' => Ex c d H') (gb r)) I1 L hobj hfn hfr (hbind _ _ _ _ _) tk2 hr2 (fun A outer s3 H3 Ex hr3 => ⟨fun pins3 s4 σ4 H4 Q4 I4 w4 => ?_⟩) (by
        have e := Sg.pre
        cases Ng with
        | nil => simp at hN; omega
        | cons y ys =>
          have e2 : [y] = [a] := e
          rw [List.cons.inj e2 |>.1] <;> rfl) hv hqa.1 hqa.2) ?_
      · obtain ⟨Hs4, S4, P4⟩ := w4
        have tkL : Takes (LamX.lamCx X A outer s3 H3 Ex scope f cN) (fun c d _ H' => Ex c d H') := takes_of rfl rfl rfl rfl
        exact (we_of pe_we ((hlam A outer s3 H3 Ex f cN hr3).run Hs4 H4 r σ4 _ Q4 tkL S4 P4)) pins3 s4 I4
      · unfold gAsk at P2
        cases q0 : r2[0]? with
        | none => rw [q0] at P2; exact P2.elim
        | some o0 =>
          cases o0 with
          | none => rw [q0] at P2; exact P2.elim
          | some d0 =>
            rw [q0] at P2
            obtain ⟨w, A, ew, ow⟩ := S2.get hkz q0
            cases ow
            have fs := S2.facts
            have gg : Grow Hs H1 Hs2 H2 := ⟨fs.1, fs.2.1, fs.2.2.1, S2.sub, fs.2.2.2⟩
            exact ⟨ew, gg.h.at _ _ hco (codeO_tbl (c := cN) (q := X.env.qual ++ "<lambda>")), Hs2, S.grow (g1.trans gg), P2⟩
    · have nx' := nx (gb r)
      have Po' : Post E.cl .val Hs H Q (fun c dd H' => W c dd σ H') (outF (m (gb r) (some .non :: List.replicate ls.length none))) := Po
      unfold askF at nx'
      cases q : m (gb r) (some .non :: List.replicate ls.length none) with
      | stuck => rw [q] at Po'; exact Po'.elim
      | exc y r' => rw [q] at nx'; exact absurd rfl (nx' y)
      | nx r' =>
        rw [q] at Po'
        intro Hs3 H3 σ3 S3
        have fs := S3.facts
        have gg : Grow Hs H1 Hs3 H3 := ⟨fs.1, fs.2.1, fs.2.2.1, S3.sub, fs.2.2.2⟩
        exact Po' .non Hs3 H3 (g1.trans gg) (RK.val .non)
      | rt d r' =>
        rw [q] at Po'
        intro Hs3 H3 σ3 v ks2 _ S3
        have fs := S3.facts
        have gg : Grow Hs H1 Hs3 H3 := ⟨fs.1, fs.2.1, fs.2.2.1, S3.sub, fs.2.2.2⟩
        refine Po' v Hs3 H3 (g1.trans gg) ?_
        obtain ⟨As, s'⟩ := S3
        cases s'.sl with
        | cons o t => exact RK.val (by cases o with | val rp => exact rp)
  refine wpAny_call (codeAny_mono ran fun res s2 got => ?_)
  cases res with
  | error e => exact (cx_no got).elim
  | ok fl =>
    cases fl with
    | next => exact got.elim
    | brk => exact got.elim
    | cont => exact got.elim
    | ret u => exact I1.after got
end VL
end

noncomputable section
namespace VL
open PySem PySem.Spec PyProof.Rows L2

/-! ### a law that makes lambdas -/
theorem def_okT {P : Program} {w : World} {K : PySem.W.Frag} {mg : Str → Option Value} {base : Heap} {cl : Cl} {x qual : Str} {st : Stmt} {fa c B : Addr} {N ps : List Str} {k : Nat} {bs : List Bool} {kr : Kd} {ls ks' : List Kd} {m : Sl → O} {oc kV doc pm ct : Value} {od an : Option Addr} {osl : Array (Option Value)}
    (lk : K.lookup fa = some ⟨oc, od, .func (PySem.W.fnOf x qual (defArgs st) (defBody st) (defScope st) .none kV doc pm an (.ref c) ct), osl⟩) (hcd : PySem.W.codeIn K (.ref c) qual = true) (S : FnScope N ps (defScope st)) (hb : bs.length = ps.length) (hN : N.length = ps.length + ls.length) (fk : kr.fine = true) (ko : kr = .val ∨ kr = .own none)
    (body : ∀ (A : Around) (outer : List Env) (s : Shared) (H : Hp) (E : XK) (h0 s0 b0 : Hp), LamX.TabS h0 B lamQ → Room k (A.deeper (envOfC qual (defScope st) s.heap.objs.size fa (.ref c))) →
      SB (cxOf (L2.CX P w) P w K mg base N qual (defScope st) fa (.ref c) A outer s H E) ⟨cl, h0, s0, b0⟩ kr (fun _ => True) (bs.map kdOf ++ ls) (defBody st) m ks') :
    FnOk P w K mg base (L2.CX P w) (k + 1) fa (PySem.W.fnOf x qual (defArgs st) (defBody st) (defScope st) .none kV doc pm an (.ref c) ct) ps (fun vs H Q E => LamX.TabS H B lamQ ∧ spV cl bs kr (runF m ls.length) vs H Q E) := by
  refine fn_of lk hcd S (fun vs H Q E h => ?_) (fun A outer s H vs Q E hr h => ?_)
  · obtain ⟨_, ds, Hs, _, a, _⟩ := h
    rw [a.len.1, hb]
  · obtain ⟨htab, ds, Hs, e, a, p⟩ := h
    refine ⟨_, pss_ws, ?_⟩
    have tk : Takes (cxOf (L2.CX P w) P w K mg base N qual (defScope st) fa (.ref c) A outer s H E) (fun c dd _ H' => E c dd H') := takes_of rfl rfl rfl rfl
    have hst : L2.start N vs = vs.map some ++ List.replicate ls.length none := by
      unfold L2.start
      rw [a.len.1, hb, hN, Nat.add_sub_cancel_left]
    have S0 : StRel ⟨cl, H, Hs, H⟩ Hs H (bs.map kdOf ++ ls) (ds.map some ++ List.replicate ls.length none) (L2.start N vs) := by
      rw [hst]
      exact ⟨[], slots_start rfl a ls, List.nodup_nil, (fun a ha => nomatch ha), Same.refl _, e, Same.refl _, fun a z => .inl z, fun a z => z, fun _ z => z⟩
    refine (body A outer s H E H Hs H htab hr).run _ _ _ _ _ _ tk S0 ?_
    unfold runF at p
    cases q : m (ds.map some ++ List.replicate ls.length none) with
    | stuck => rw [q] at p; exact p
    | nx r =>
      rw [q] at p
      intro Hs' H' σ' S'
      have f := S'.facts
      refine p .non Hs' H' ⟨f.1, f.2.1, f.2.2.1, S'.sub, f.2.2.2⟩ ?_
      rcases ko with rfl | rfl
      · exact RK.val .non
      · exact RK.ownPlain rfl .non
    | rt d r =>
      rw [q] at p
      intro Hs' H' σ' v ks2 _ S'
      have f := S'.facts
      refine p v Hs' H' ⟨f.1, f.2.1, f.2.2.1, S'.sub, f.2.2.2⟩ ?_
      obtain ⟨As, s'⟩ := S'
      have sl := s'.sl
      cases sl with
      | cons o t =>
        rename_i A As'
        refine ⟨A, ORep.anyB kr _ _ _ fk o, (List.nodup_append.mp s'.nd).1, fun a ha => ?_⟩
        have z := s'.dis a (List.mem_append_left _ ha)
        exact ⟨z.1, z.2⟩
    | exc z r =>
      rw [q] at p
      intro Hs' H' σ' c dd ks2 _ S' xr
      have f := S'.facts
      exact p c dd Hs' H' ⟨f.1, f.2.1, f.2.2.1, S'.sub, f.2.2.2⟩ xr

def spLawT (K : PySem.W.Frag) (B : Addr) : Sp := fun vs H Q _ => ∃ (a : Addr) (ns : List Int), vs = [.ref a] ∧ SqL K H a (ns.map V.int) ∧ ns.length ≤ 63 ∧ H B = some (.tbl #[]) ∧ ∀ H', Q (.bl true) H'
theorem law_endT {P : Program} {w : World} {K : PySem.W.Frag} {mg : Str → Option Value} {base : Heap} {cl : Cl} {k : Nat} {b : Bool} {f : List D → R D} {fa B : Addr} {fd : FuncData} {x : Str} (hK : cl.K = K) (F : FnOk P w K mg base (L2.CX P w) k fa fd [x] (fun vs H Q E => LamX.TabS H B lamQ ∧ spV cl [b] .val f vs H Q E))
    (hf : ∀ ns : List Int, ns.length ≤ 63 → f [.scr ns] = .ok (.bl true)) (hk : k ≤ 65) : FnOk P w K mg base (L2.CX P w) 65 fa fd [x] (spLawT K B) := by
  refine (F.mono hk).imp ?_
  intro vs H Q E ⟨a, ns, e, hs, hl, ht, q⟩
  subst e
  refine ⟨LamX.TabS.nil ht, [.scr ns], H, Same.refl _, ?_, ?_⟩
  · have r : Rep cl H (.scr ns) (.ref a) := .scr (by rw [hK]; exact hs)
    cases b with
    | true => exact .val r .nil
    | false => exact .bor (.val r) .nil
  · rw [hf ns hl]
    intro v Hs' H' g rk
    obtain ⟨A, o, _⟩ := rk
    cases o with
    | val r =>
      cases r
      exact q H'
theorem law_walkT {l : PySem.W.OpenLaw} {q : Program} {loose : List Str} {XP : (Str → Option Value) → Heap → Prop} {YP : World → Heap → Prop} {d : DefRec} {K : Params → PySem.W.Frag} {x : Str} (hn : l.most = some 63) (hdf : d.params.defaults = [])
    (hY : ∀ (w : World) (h : Heap), YP w h → (K w.params).In h)
    (F : ∀ (w : World) (mg : Str → Option Value) (fa : Addr) (h : Heap), YP w h → (K w.params).In h → h.Ns mainGlobals mg → mg d.name = some (.ref fa) →
      ∃ (fd : FuncData) (c B : Addr), h.get? B = some { cls := .none, data := .fields #[] } ∧ (K w.params).lookup B = none ∧ PySem.W.CodeHd h c B ∧ (∀ (s : Shared) (u : Value), BindsTo s fd ⟨[u], []⟩ [(x, u)]) ∧
        ∀ base : Heap, (K w.params).In base → base.Ns mainGlobals mg → LamX.TabB base mg c B → FnOk l.prog w (K w.params) mg base (L2.CX l.prog w) 65 fa fd [x] (spLawT (K w.params) B)) :
    PySem.W.WalkO q loose XP YP l.row.toRowW d [] (fun f vs => PySem.call f vs) := by
  refine LamX.walk_ofTs (n := 63) (k := 65) (x := x) (CX := fun w => L2.CX l.prog w) hn (by decide) hdf ⟨rfl, by decide, by decide⟩ hY (fun w mg fa h Y KX G hm => ?_) fun _ _ _ _ _ z => cx_no z
  obtain ⟨fd, c, B, h1, h2, h3, h4, h5⟩ := F w mg fa h Y KX G hm
  refine ⟨fd, [(c, B)], spLawT (K w.params) B, fun p hp => ?_, fun p hp => ?_, fun p hp => ?_, h4, fun H a ns hl _ hT hS => ⟨a, ns, rfl, hS, hl, hT (c, B) (List.mem_singleton.mpr rfl), fun _ => rfl⟩, fun base b1 b2 b3 => h5 base b1 b2 (b3 (c, B) (List.mem_singleton.mpr rfl))⟩
  · rw [List.mem_singleton.mp hp]; exact h1
  · rw [List.mem_singleton.mp hp]; exact h2
  · rw [List.mem_singleton.mp hp]; exact h3
/-! ### no exception leaves a def that catches all -/
theorem runH_calm (h : Hdl) (x : Exc) (r : Sl) (y : Exc) (r' : Sl) : runH h x r ≠ .exc y r' := fun e => by
  unfold runH at e
  split at e
  · cases q : h.m x r <;> rw [q] at e <;> cases e
  · rename_i i _
    cases q : h.m x (r.set i (some .non)) <;> rw [q] at e <;> cases e
theorem handle_calm : ∀ (hs : List Hdl) (x : Exc) (r : Sl), (∃ h ∈ hs, h.cls = "CreelError") → ∀ (y : Exc) (r' : Sl), handle hs x r ≠ .exc y r'
  | [], x, r, h, y, r', _ => by obtain ⟨_, z, _⟩ := h; cases z
  | h :: hs, x, r, hh, y, r', e => by
    unfold handle at e
    split at e
    · exact runH_calm h x r y r' e
    · rename_i c
      refine handle_calm hs x r ?_ y r' e
      obtain ⟨h0, m0, e0⟩ := hh
      rcases List.mem_cons.mp m0 with z | z
      · subst z
        exfalso
        apply c
        unfold subX
        rw [e0]
        simp
      · exact ⟨h0, z, e0⟩
theorem ask_calm {m : R D → Sl → O} {n : Nat} {r1 : Sl} {hs : List Hdl} {i : Nat} (e : ∀ ask, m ask (some .non :: List.replicate n none) = mSeq (mTry (mSeq (mExpr (gAsk ask)) mNil) hs) (mSeq (mRet (gVar i)) mNil) r1) (h : ∃ h ∈ hs, h.cls = "CreelError") (ask : R D) (y : Exc) : askF m n ask ≠ .exc y := by
  have ret : ∀ r : Sl, outF ((mSeq (mRet (gVar i)) mNil) r) ≠ .exc y := fun r z => by
    unfold mSeq mRet gVar at z
    cases q : r[i]? with
    | none => simp only [q] at z; cases z
    | some o => cases o <;> simp only [q] at z <;> cases z
  unfold askF
  rw [e]
  intro z
  have seq : mSeq (mTry (mSeq (mExpr (gAsk ask)) mNil) hs) (mSeq (mRet (gVar i)) mNil) r1 = (match mTry (mSeq (mExpr (gAsk ask)) mNil) hs r1 with
    | .nx r' => mSeq (mRet (gVar i)) mNil r'
    | o => o) := rfl
  rw [seq] at z
  cases q : mTry (mSeq (mExpr (gAsk ask)) mNil) hs r1 with
  | stuck => rw [q] at z; cases z
  | rt d r => rw [q] at z; cases z
  | nx r => rw [q] at z; exact ret r z
  | exc x r =>
    have tr : mTry (mSeq (mExpr (gAsk ask)) mNil) hs r1 = (match mSeq (mExpr (gAsk ask)) mNil r1 with
      | .exc x r' => handle hs x r'
      | o => o) := rfl
    rw [tr] at q
    cases q0 : mSeq (mExpr (gAsk ask)) mNil r1 with
    | exc x0 r0 => rw [q0] at q; exact handle_calm hs x0 r0 h x r q
    | stuck => rw [q0] at q; cases q
    | nx r0 => rw [q0] at q; cases q
    | rt d r0 => rw [q0] at q; cases q
theorem look_nil {P : Str → Addr → Prop} : ∀ C c, List.lookup C ([] : List (Str × Addr)) = some c → P C c := fun C c e => by cases e
theorem look_cons {P : Str → Addr → Prop} {n : Str} {a : Addr} {l : List (Str × Addr)} (h : P n a) (t : ∀ C c, List.lookup C l = some c → P C c) : ∀ C c, List.lookup C ((n, a) :: l) = some c → P C c := fun C c e => by
  rw [List.lookup_cons] at e
  cases q : C == n with
  | true =>
    rw [q] at e
    have e1 : C = n := by simpa using q
    cases e
    rw [e1]
    exact h
  | false =>
    rw [q] at e
    exact t C c e
theorem sub_at {K : PySem.W.Frag} {C D : Str} {c a : Addr} {b : Bool} (e : PySem.W.exmOne K (.ref c) (.ref a) = some b) (h : subX C D = b) : PySem.W.exmOne K (.ref c) (.ref a) = some (subX C D) := by rw [h]; exact e
theorem exm_mk {K : PySem.W.Frag} {t : Value} {a : Addr} {b : Bool} (s : PySem.W.subIn K (.ref a) (.type "BaseException") = some true) (i : PySem.W.isClsIn K a = true) (ty : PySem.W.typeIn K (.ref a) = some (.type "type")) (e : PySem.W.subIn K t (.ref a) = some b) : PySem.W.exmOne K t (.ref a) = some b := by
  unfold PySem.W.isClsIn at i
  unfold PySem.W.exmOne PySem.W.kitCls
  rw [s]
  simp [i, ty, e]
theorem xf_ok {K : PySem.W.Frag} {cl : Cl} {D : Str} {a0 : Addr} (e : cl.f D = some a0) (X : XfC K a0) (no : PySem.W.findIn K (.ref a0) "at" = some none) : XfAt K cl D := ⟨fun a h => by
  rw [e] at h
  cases h
  exact ⟨X, no⟩⟩
theorem xf_none {K : PySem.W.Frag} {cl : Cl} {D : Str} (e : cl.f D = none) : XfAt K cl D := ⟨fun a h => by
  rw [e] at h
  cases h⟩
/-- where a law that makes lambdas stands -/
structure AtL (K : PySem.W.Frag) (mg : Str → Option Value) (x : Str) (st : Stmt) (c B : Addr) : Prop where
  ex : ∃ fa oc od kV doc pm an ct osl, mg x = some (.ref fa) ∧ K.lookup fa = some ⟨oc, od, .func (PySem.W.fnOf x x (defArgs st) (defBody st) (defScope st) .none kV doc pm an (.ref c) ct), osl⟩ ∧ PySem.W.codeIn K (.ref c) x = true
  hd : PySem.W.codeHdIn K c B = true
  no : K.lookup B = none
theorem atl_mk {K : PySem.W.Frag} {h : Heap} {mg : Str → Option Value} (X : K.In h) (G : h.Ns mainGlobals mg) {x : Str} {st : Stmt} {f c B : Addr} {od an : Option Addr} {sl : Array (Option Value)} {oc kV dc pm ct : Value}
    (a : PySem.W.nsIn K mainGlobals x = some (some (.ref f))) (l : K.lookup f = some ⟨oc, od, .func (PySem.W.fnOf x x (defArgs st) (defBody st) (defScope st) .none kV dc pm an (.ref c) ct), sl⟩) (cc : PySem.W.codeIn K (.ref c) x = true) (hd : PySem.W.codeHdIn K c B = true) (no : K.lookup B = none) :
    AtL K mg x st c B := ⟨⟨f, oc, od, kV, dc, pm, an, ct, sl, PySem.W.mg_of X G a, l, cc⟩, hd, no⟩
end VL
end

noncomputable section
namespace VL
open PySem PySem.Spec PyProof.Rows L2

/-! ### isinstance(e, ValueError) in a suite -/
theorem SE.asIs {X : Cx} {E : En} {ks : List Kd} {k : Kd} {e : Expr} {g : Sl → R D} (h : SE X E ks k e g) : SE X E ks k e g := h
structure ExV (K : PySem.W.Frag) (D : Addr) : Prop where
  ga : PySem.W.findIn K (.ref D) "__getattribute__" = some (some (.builtin "BaseException.__getattribute__"))
  gg : PySem.W.findIn K (.ref D) "__getattr__" = some none
  hs : PySem.W.subIn K (.ref D) (.type "BaseException") = some true
  hd : PySem.W.hasDictIn K D = true
  ha : PySem.W.findIn K (.ref D) "__class__" = some (some (.builtin "object.__class__"))
  hm : PySem.W.mroIn K D (.type "object") = some true
  vv : PySem.W.subIn K (.ref D) (.type "ValueError") = some true
structure HVal (K : PySem.W.Frag) (cl : Cl) : Prop where
  hn : PySem.W.specialIn K (.builtin "object.__class__") "__get__" = some (some (.builtin "getset_descriptor.__get__"))
  ht : PySem.W.takesIn K (.builtin "object.__class__") = some true
  f : ∀ C c, cl.f C = some c → ExV K c
theorem km_ve : PySem.W.kitMeta "ValueError" = true := by decide +kernel
theorem ExV.kit {K : PySem.W.Frag} {D : Addr} (C : ExV K D) : PySem.W.kitOne K (.ref D) (.type "ValueError") = some true := by
  unfold PySem.W.kitOne
  rw [if_neg (by intro z; cases z)]
  show (if PySem.W.kitMeta "ValueError" = true then PySem.W.subIn K (.ref D) (.type "ValueError") else none) = some true
  rw [if_pos km_ve]
  exact C.vv
def rIsEd (K : PySem.W.Frag) (D a : Addr) (dd : Option Addr) : List V → Hp → VK → Prop := fun xs H Q => ∃ (c : V) (cv : Value) (b : Bool), xs = [.ref a, c] ∧ (∀ u, RelV c u → u = cv) ∧ PySem.W.kitOne K (.ref D) cv = some b ∧ (∀ p, dd = some p → ∃ fs, H p = some (.xd fs)) ∧ Q (.bl b) H
theorem call_isEd {X : Cx} {a D : Addr} {oe : Obj} {dd : Option Addr} {pn : List (Addr × Obj)} (C : ExV X.K D) (hn : PySem.W.specialIn X.K (.builtin "object.__class__") "__get__" = some (some (.builtin "getset_descriptor.__get__"))) (htk : PySem.W.takesIn X.K (.builtin "object.__class__") = some true)
    (hz : Zc (.ref D) dd oe) (hf : ∃ vs, oe.data = .fields vs) : CallR (X.suite a ((a, oe) :: pn)) (.builtin "isinstance") (rIsEd X.K D a dd) := by
  intro pins s σ H xs us Q I r h
  obtain ⟨c, cv, b, rfl, hcv, e, hd, q⟩ := h
  cases r with
  | cons rx rr =>
    cases rr with
    | cons rt rr =>
      cases rr
      cases rx
      have ec := hcv _ rt
      subst ec
      obtain ⟨hget, _⟩ := I.pin (a, oe) (List.mem_append.mpr (.inl List.mem_cons_self))
      obtain ⟨vs, hv⟩ := hf
      have J : ∃ od, PySem.W.InstAt s.heap a oe D od := by
        cases dd with
        | none => exact ⟨none, hget, hz.1, by unfold PySem.W.notCls; rw [hv] <;> rfl, by rw [hz.2]; trivial⟩
        | some p =>
          obtain ⟨fs, hp⟩ := hd p rfl
          have hx : ObjOk X.prog X.w H s.heap p (.xd fs) := I.hok p _ hp
          obtain ⟨mA, hns, hr⟩ := hx
          obtain ⟨od, ho, hl⟩ := lookIn_ns hns
          exact ⟨some od, hget, hz.1, by unfold PySem.W.notCls; rw [hv] <;> rfl, by rw [hz.2]; exact ho⟩
      obtain ⟨od, J⟩ := J
      obtain ⟨cd, hc, _⟩ := PySem.W.any_some C.hd
      exact PySem.W.kia_one (PySem.W.kitx_exc (by rw [hc]; rfl) C.ga C.gg C.hs C.ha hn htk C.hm) I.kIn J e (fun z => nomatch z) fun tk => ⟨.bl b, H, I.kept (t' := tk) fun _ _ z => z, rfl, q⟩
def gIsV (i : Nat) : Sl → R D := fun r => match r[i]? with
  | some (some _) => .ok (.bl true)
  | _ => .stuck
theorem bb_ve : bootBuiltins "ValueError" = some (.type "ValueError") := by decide +kernel
theorem se_isVal {X : Cx} {E : En} {a : Addr} {oe : Obj} {cls : Value} {dd : Option Addr} {pn : List (Addr × Obj)} {s : Hp} {x : Exc} {i : Nat} {n : Str} {p1 p2 p3 pos : Pos} {ks : List Kd} (B : Bl X.mg) (T : HVal X.K E.cl) (hmT : X.mg "ValueError" = none) (hz : Zc cls dd oe) (hf : ∃ vs, oe.data = .fields vs) (xr : XRep E.cl s s x cls dd)
    (hq : NmOk n) (hk : ks[i]? = some (.adr a) := by rfl) (hN : X.N[i]? = some n := by rfl) (hv : Vis X.env.scope n := by first | exact Or.inl rfl | exact Or.inr (Or.inl rfl) | exact Or.inr (Or.inr rfl))
    (hg : Gl X "isinstance" := by rfl) (hgT : Gl X "ValueError" := by rfl)
    (hs : starEach [.Name n p2, .Name "ValueError" p3] X.env = (false, eval (.Name n p2) X.env) :: starEach [.Name "ValueError" p3] X.env := by rfl) (hs2 : starEach [.Name "ValueError" p3] X.env = (false, eval (.Name "ValueError" p3) X.env) :: starEach [] X.env := by rfl) (hpl : (backTo pos (starEach [.Name "ValueError" p3] X.env)).any (·.1) = false := by rfl) :
    SE (X.suite a ((a, oe) :: pn)) (E.at_ s) ks .val (.Call (.Name "isinstance" p1) [.Name n p2, .Name "ValueError" p3] [] pos) (gIsV i) := by
  refine ⟨fun Hs H r σ W Q tk S P => ?_⟩
  unfold gIsV at P
  cases q1 : r[i]? with
  | none => rw [q1] at P; exact P.elim
  | some o =>
    cases o with
    | none => rw [q1] at P; exact P.elim
    | some d0 =>
      rw [q1] at P
      obtain ⟨ac, e1, e2, e3⟩ := xr
      subst e2
      have C := T.f _ _ e1
      obtain ⟨w, A, ew, ow⟩ := S.get hk q1
      cases ow
      have es : Same s Hs := S.facts.1
      refine we_of (pe_callB (call_isEd C T.hn T.ht hz hf) hg B.isinstance bb_isinstance (pa_cons (pe_var (i := i) hN hv hq.1 hq.2) (pa_cons (pe_bltn (v := .ty "ValueError") hgT hmT bb_ve rfl (by decide) (by decide)) pa_nil hs2) hs) (by decide) (by decide) hs hpl) ?_
      refine ⟨.ref a, ew, .ty "ValueError", .type "ValueError", true, rfl, fun u ru => by cases ru; rfl, C.kit, fun p hp => ?_, P (.bl true) Hs H (Grow.refl S.sub) (RK.val (.bl true))⟩
      cases q2 : x.at_ with
      | none => rw [q2] at e3; rw [e3] at hp; cases hp
      | some d =>
        rw [q2] at e3
        obtain ⟨p0, v, f1, f2, f3⟩ := e3
        rw [f1] at hp
        cases hp
        exact ⟨_, S.sub.at _ _ (es.at _ _ f2)⟩
end VL
end

noncomputable section
namespace L2
open PySem PySem.Spec PyProof.Rows
section
variable {P : Program} {w : World} {A : Around} {E : Value → Shared → Prop} {s : Shared}
theorem call_set_listI {l : Addr} {items : Array Value} (ns : List Int) {Q : Value → Shared → Prop} (hh : A.handled = none) (hl : s.heap.IsList l items) (hit : IntsAre items.toList ns) (hb : ns.length + 1 < scanBound)
    (h : ∀ (h' : Heap) (tk c : Nat), SetR w h' s.heap.objs.size (fun j => decide (j ∈ ns)) c → c ≤ ns.length → (∀ b o, s.heap.get? b = some o → h'.get? b = some o) → Q (.ref s.heap.objs.size) { s with heap := h', toks := tk }) :
    wpAny (model P w) A (call (.type "set") [.ref l]) Q E s := by
  have hisz : items.size = ns.length := by
    have q := IntsAre.length hit
    rw [Array.length_toList] at q
    exact q
  obtain ⟨c, tl, hmro⟩ := F.called_set.mro
  have hmade := F.called_set.made
  have hsub := F.called_set.sub
  refine wpAny_call (codeAny_of_tree ?_)
  show wpAny _ _ (callAny (.type "set") _) _ _ _
  refine wpAny_pure ⟨Code.quiet_builtin _ (by decide +kernel), codeAny_builtin F.entry_type_call ?_⟩
  rw [Around.under_plain (weight_type_call_type "set" [.ref l] []) rfl]
  have h1 := F.called_set.notType
  have h2 := F.called_set.canCreate
  have hct := F.typeCall_set_1 (.ref l)
  repeat (any_goals (first | assumption | wp_step))

  refine codeAny_mono (code_set_led1 (.ref l) (E := E) (Q₁ := fun obj s₁ => obj = .ref s.heap.objs.size ∧ s₁ = { s with heap := s.heap.push { cls := .type "set", dict := none, data := .set #[] 0 (.fresh 0 0 (!w.params.followText "set-order")) } }) ⟨rfl, rfl⟩) fun r s₁ hr => ?_
  cases r with
  | error e => exact hr
  | ok fl =>
    cases fl with
    | ret obj =>
      obtain ⟨rfl, rfl⟩ := hr
      have hS : (s.heap.push { cls := .type "set", dict := none, data := .set #[] 0 (.fresh 0 0 (!w.params.followText "set-order")) }).get? s.heap.objs.size = some { cls := .type "set", dict := none, data := .set #[] 0 (.fresh 0 0 (!w.params.followText "set-order")) } := Heap.get?_push_size _ rfl
      have hT : Shared.TypeIs { s with heap := s.heap.push { cls := .type "set", dict := none, data := .set #[] 0 (.fresh 0 0 (!w.params.followText "set-order")) } } (.ref s.heap.objs.size) "set" := ⟨_, hS, rfl⟩
      have hli := F.called_set.init.lookup
      have hbi := F.called_set.init.bind (.ref s.heap.objs.size)
      repeat (any_goals (first | assumption | wp_step))

      refine codeAny_mono (codeAny_call_builtin (R := wants (fun r s₂ => r = .none ∧ ∃ h' tk c, s₂ = { s with heap := h', toks := tk } ∧ SetR w h' s.heap.objs.size (fun j => decide (j ∈ ns)) c ∧ c ≤ ns.length ∧
          (∀ b o, s.heap.get? b = some o → h'.get? b = some o)) E) F.called_set.init.plain F.entry_set_init (check_set_init_1 hT ?_)) fun r₂ s₂ hr₂ => ?_
      · obtain ⟨ol, hol, hcl, nl, hdl⟩ := hl
        obtain ⟨ocls, odict, odata, oslots⟩ := ol
        simp only at hcl hdl
        subst hcl; subst hdl
        have hol' : (s.heap.push { cls := .type "set", dict := none, data := .set #[] 0 (.fresh 0 0 (!w.params.followText "set-order")) }).get? l = some { cls := .type "list", dict := odict, data := .seq items nl, slots := oslots } := Heap.get?_push_of_some _ hol
        have hsls := F.sub_list_set
        have hslf := F.sub_list_frozenset
        have hne : (Value.type "list" == Value.type "dict") = false := by decide
        have hl1 : (s.heap.push { cls := .type "set", dict := none, data := .set #[] 0 (.fresh 0 0 (!w.params.followText "set-order")) }).IsList l items := ⟨_, hol', rfl, nl, rfl⟩
        unfold Builtin.«set.__init__» noKeywords Builtin.Frozenset.updateFrom
        generalize hPI : pyIter = PI
        wp_walk
        subst hPI

        refine wpAny_pyIter_list hl1 ?_
        refine wpAny_bind (wpAny_runValue ?_)
        have hlS : l < s.heap.objs.size := Heap.lt_size hol
        have hh3 : A.in1.in1.in1.handled = none := by simp [hh]
        have hz1 : (s.heap.push { cls := .type "set", dict := none, data := .set #[] 0 (.fresh 0 0 (!w.params.followText "set-order")) }).objs.size = s.heap.objs.size + 1 := Heap.size_push ..
        have hneI : l ≠ (s.heap.push { cls := .type "set", dict := none, data := .set #[] 0 (.fresh 0 0 (!w.params.followText "set-order")) }).objs.size := by
          rw [Heap.size_push]; exact Nat.ne_of_lt (Nat.lt_succ_of_lt hlS)
        have hSf : s.heap.objs.size ∉ [(s.heap.push { cls := .type "set", dict := none, data := .set #[] 0 (.fresh 0 0 (!w.params.followText "set-order")) }).objs.size, l] := by
          rw [Heap.size_push]; simp only [List.mem_cons, List.mem_singleton, List.not_mem_nil, or_false, not_or]
          exact ⟨Nat.ne_of_lt (Nat.lt_succ_self _), Nat.ne_of_gt hlS⟩
        have hval : ∀ (i : Nat) (v : Value), items[i]? = some v → ∃ k t, ns[i]? = some k ∧ v = .int k t := fun i v hv => by
          have hi : i < ns.length := by rw [← hisz]; exact (Array.getElem?_eq_some_iff.mp hv).1
          obtain ⟨t, e⟩ := PyProof.Rows.IntsAre.int_at hit i v (by rw [Array.getElem?_toList]; exact hv)
          refine ⟨ns[i], t, List.getElem?_eq_getElem hi, ?_⟩
          rw [e, List.getD_eq_getElem?_getD, List.getElem?_eq_getElem hi] <;> rfl
        refine set_update_ints ((Walks.list hh3 _ l hneI items).toS) s.heap.objs.size
          hSf ns hisz hb hval (items.size - 0) 0 _ (by omega) (Nat.zero_le _)
          ⟨⟨_, Heap.get?_push_size _ rfl, rfl, rfl⟩, (hl1.push _)⟩ ?hS0 ?hR
        case hS0 =>
          have hget : ((s.heap.push { cls := .type "set", dict := none, data := .set #[] 0 (.fresh 0 0 (!w.params.followText "set-order")) }).push { cls := .type "list_iterator", data := .fields #[.ref l, .int 0 0] }).get? s.heap.objs.size
              = some { cls := .type "set", dict := none, data := .set #[] 0 (.fresh 0 0 (!w.params.followText "set-order")) } := Heap.get?_push_of_some _ hS
          exact ⟨0, Nat.le_refl 0, setR_new_at hget⟩
        case hR =>
          intro s' c' hm hc' hS'
          obtain ⟨h', g2, d', tk', os'⟩ := s'
          have eg : g2 = s.gens := hm.gens
          have ed : d' = s.drawn := hm.drawn
          have eo : os' = s.os := hm.os
          subst eg; subst ed; subst eo
          show wpAny _ _ _ _ _ _
          refine wpAny_pure ?_
          show wpAny _ _ (ret Value.none) _ _ _
          rw [hisz] at hc'
          refine wpAny_pure ⟨rfl, h', tk', c', rfl, hS', hc', fun b o e => ?_⟩
          have hb0 : b < s.heap.objs.size := Heap.lt_size e
          have hb1 : b ≠ s.heap.objs.size := Nat.ne_of_lt hb0
          have hb2 : b ≠ (s.heap.push { cls := .type "set", dict := none, data := .set #[] 0 (.fresh 0 0 (!w.params.followText "set-order")) }).objs.size := by
            rw [Heap.size_push]; exact Nat.ne_of_lt (Nat.lt_succ_of_lt hb0)
          exact hm.heap b o (by simp only [List.mem_cons, List.mem_singleton, List.not_mem_nil, or_false, not_or]; exact ⟨hb1, hb2⟩) (Heap.get?_push_of_some _ (Heap.get?_push_of_some _ e))

      · cases r₂ with
        | error e => exact hr₂
        | ok fl₂ =>
          cases fl₂ with
          | ret r =>
            obtain ⟨rfl, h', tk, c', rfl, hS', hc', hk'⟩ := hr₂
            repeat (any_goals (first | assumption | wp_step))
            exact h _ _ _ hS' hc' hk'
          | _ => exact hr₂.elim
    | _ => exact hr.elim


end
end L2
namespace VL
open PySem PySem.Spec PyProof.Rows L2

/-! ### sorted(set(xs)), xs.count(k) of a list of whole numbers -/
def rSetL (K : PySem.W.Frag) (w : World) : List V → Hp → VK → Prop := fun xs H Q => ∃ (l : Addr) (ns : List Int), xs = [.ref l] ∧ SqL K H l (ns.map V.int) ∧ ns.length + 1 < scanBound ∧ ∀ p c, H p = none → c ≤ ns.length → Q (.ref p) (upd H p (SetO w p (fun j => decide (j ∈ ns)) c))
theorem cr_setL {X : Cx} (hc : X.calm = true) : CallR X (.type "set") (rSetL X.K X.w) := by
  intro pins s σ H xs us Q I r h
  obtain ⟨l, ns, rfl, hs, hb, q⟩ := h
  rw [Vals.ref1 r]
  obtain ⟨its, rv, pl, hz⟩ := I.list hs
  refine call_set_listI ns (I.ok.hd hc) pl.isList (by simpa using ints_of_vals rv) hb fun h' tk c hS hc' hk => ?_
  exact ⟨.ref _, upd H s.heap.objs.size (SetO X.w s.heap.objs.size (fun j => decide (j ∈ ns)) c), I.laid (t' := tk) hk (Nat.le_refl _) (setO_new hS), rfl, q _ c (I.hok.fresh (Nat.le_refl _)) hc'⟩
def insSet (x : Int) : List Int → List Int
  | [] => [x]
  | y :: r => if y < x then y :: insSet x r else if y = x then y :: r else x :: y :: r
def sortSet : List Int → List Int
  | [] => []
  | x :: r => insSet x (sortSet r)
theorem insSet_mem (x : Int) : ∀ (l : List Int) (k : Int), k ∈ insSet x l ↔ k = x ∨ k ∈ l
  | [], k => by simp [insSet]
  | y :: r, k => by
    unfold insSet
    split
    · rw [List.mem_cons, insSet_mem x r k, List.mem_cons]
      constructor
      · rintro (h | h | h)
        · exact .inr (.inl h)
        · exact .inl h
        · exact .inr (.inr h)
      · rintro (h | h | h)
        · exact .inr (.inl h)
        · exact .inl h
        · exact .inr (.inr h)
    · split
      · rename_i e
        rw [e, List.mem_cons]
        constructor
        · exact fun h => .inr h
        · rintro (h | h)
          · exact .inl h
          · exact h
      · rw [List.mem_cons]
theorem sortSet_mem : ∀ (l : List Int) (k : Int), k ∈ sortSet l ↔ k ∈ l
  | [], k => by simp [sortSet]
  | x :: r, k => by
    unfold sortSet
    rw [insSet_mem, sortSet_mem r k, List.mem_cons]
theorem insSet_lt (x : Int) : ∀ {l : List Int}, l.Pairwise (· < ·) → (insSet x l).Pairwise (· < ·)
  | [], _ => List.pairwise_singleton _ _
  | y :: r, h => by
    obtain ⟨h1, h2⟩ := List.pairwise_cons.mp h
    unfold insSet
    split
    · rename_i q
      refine List.pairwise_cons.mpr ⟨fun z hz => ?_, insSet_lt x h2⟩
      rcases (insSet_mem x r z).mp hz with e | e
      · rw [e]; exact q
      · exact h1 z e
    · split
      · exact h
      · refine List.pairwise_cons.mpr ⟨fun z hz => ?_, h⟩
        rcases List.mem_cons.mp hz with e | e
        · rw [e]; omega
        · have := h1 z e; omega
theorem sortSet_lt : ∀ l : List Int, (sortSet l).Pairwise (· < ·)
  | [] => List.Pairwise.nil
  | x :: r => insSet_lt x (sortSet_lt r)
theorem lt_unique : ∀ {a b : List Int}, a.Pairwise (· < ·) → b.Pairwise (· < ·) → (∀ k, k ∈ a ↔ k ∈ b) → a = b
  | [], [], _, _, _ => rfl
  | [], y :: b, _, _, h => absurd ((h y).mpr List.mem_cons_self) (by simp)
  | x :: a, [], _, _, h => absurd ((h x).mp List.mem_cons_self) (by simp)
  | x :: a, y :: b, ha, hb, h => by
    obtain ⟨a1, a2⟩ := List.pairwise_cons.mp ha
    obtain ⟨b1, b2⟩ := List.pairwise_cons.mp hb
    have e : x = y := by
      rcases List.mem_cons.mp ((h x).mp List.mem_cons_self) with z | z
      · exact z
      · rcases List.mem_cons.mp ((h y).mpr List.mem_cons_self) with w | w
        · exact w.symm
        · have := b1 x z; have := a1 y w; omega
    subst e
    rw [lt_unique a2 b2 fun k => ?_]
    have := h k
    rw [List.mem_cons, List.mem_cons] at this
    constructor
    · intro z
      rcases this.mp (.inr z) with e | e
      · have := a1 k z; omega
      · exact e
    · intro z
      rcases this.mpr (.inr z) with e | e
      · have := b1 k z; omega
      · exact e
theorem insSet_len (x : Int) : ∀ l : List Int, (insSet x l).length ≤ l.length + 1
  | [] => by simp [insSet]
  | y :: r => by
    unfold insSet
    have := insSet_len x r
    split
    · simp; omega
    · split <;> simp
theorem sortSet_len : ∀ l : List Int, (sortSet l).length ≤ l.length
  | [] => by simp [sortSet]
  | x :: r => by
    unfold sortSet
    have := insSet_len x (sortSet r)
    have := sortSet_len r
    rw [List.length_cons]; omega
def dSet (d : D) : R D := match d with
  | .lst ds => match intsOf ds with
    | some ns => if ns.length ≤ 63 then .ok (.lst ((sortSet ns).map D.int)) else .stuck
    | none => .stuck
  | _ => .stuck
def gCnt (ga gb : Sl → R D) : Sl → R D := fun r => match ga r with
  | .ok (.lst ds) => match intsOf ds with
    | some ns => match gb r with
      | .ok (.int k) => .ok (.int (ns.count k : Nat))
      | .exc x => .exc x
      | _ => .stuck
    | none => .stuck
  | .exc x => .exc x
  | _ => .stuck
section
variable {X : Cx} {E : En} {ks : List Kd} {e o : Expr} {g ga gb : Sl → R D} {p p1 p2 q pos apos cpos : Pos}
theorem se_sortedSet (B : Bl X.mg) (he : SE X E ks .bor e g) (hc : X.calm = true := by rfl) (hg : Gl X "sorted" := by rfl) (hg2 : Gl X "set" := by rfl)
    (hs : starEach [.Call (.Name "set" p2) [e] [] q] X.env = (false, eval (.Call (.Name "set" p2) [e] [] q) X.env) :: starEach [] X.env := by rfl) (hs2 : starEach [e] X.env = (false, eval e X.env) :: starEach [] X.env := by rfl)
    (hpl : (backTo pos (starEach [] X.env)).any (·.1) = false := by rfl) (hpl2 : (backTo q (starEach [] X.env)).any (·.1) = false := by rfl) :
    SE X E ks (.own none) (.Call (.Name "sorted" p1) [.Call (.Name "set" p2) [e] [] q] [] pos) (gUn dSet g) := by
  refine ⟨fun Hs H r σ W Q tk S P => ?_⟩
  refine we_of (pe_callB (cr_sortedSet hc) hg B.sorted bb_sorted (pa_cons (pe_callTy (cr_setL hc) hg2 B.set bb_set (pa_cons pe_we pa_nil hs2) (by decide) (by decide) hs2 hpl2) pa_nil hs) (by decide) (by decide) hs hpl) ?_
  refine he.run _ _ _ _ _ _ tk S (P.imp fun d v Hs1 H1 e1 g1 k1 P1 => ?_)
  unfold dSet at P1
  cases d <;> first | exact P1.elim | skip
  dsimp only at P1
  split at P1
  · rename_i ns qn
    split at P1
    · rename_i hl
      obtain ⟨a, rfl, h1⟩ := k1.rb.intsInv g1.sub qn
      refine ⟨a, ns, rfl, SqL.of h1, by unfold scanBound; omega, fun p c hp hc => ?_⟩
      have g2 := Grow.fresh (o := SetO X.w p (fun j => decide (j ∈ ns)) c) g1.sub hp
      refine ⟨p, _, c, rfl, upd_same, by omega, fun ns' p' pw hm hlen hp' => ?_⟩
      have z : ns' = sortSet ns := lt_unique pw (sortSet_lt ns) fun k => by rw [hm k, sortSet_mem]; simp
      rw [z]
      exact (P1.grow g2).finL g2.sub hp' (RepL.ofInts _)
    · exact P1.elim
  · exact P1.elim
theorem se_cnt (ho : SE X E ks .bor o ga) (he : SE X E ks .bor e gb)
    (hbase : attributeBase o "count" X.env (eval o X.env) = eval o X.env := by rfl)
    (hfew : ((backTo cpos (starEach [e] X.env)).all (fun x => !x.1) && (backToKw cpos (keywordEach [] X.env)).all (fun x => x.1.isSome)
      && decide (([e] : List Expr).length + ([] : List Keyword).length + (if ([] : List Keyword).isEmpty then 0 else 1) < 30)) = true := by rfl)
    (hline : (apos.endLine == cpos.line) = true := by rfl) (hs : starEach [e] X.env = (false, eval e X.env) :: starEach [] X.env := by rfl) (hplain : (backTo cpos (starEach [] X.env)).any (·.1) = false := by rfl) :
    SE X E ks .val (.Call (.Attribute o "count" apos) [e] [] cpos) (gCnt ga gb) := by
  refine ⟨fun Hs H r σ W Q tk S P => ?_⟩
  refine we_of (pe_bm PySem.F.plainAttrs_list PySem.F.slot_list_count PySem.F.type_list_count mt_lcount pe_we (pa_cons pe_we pa_nil hs) hbase hfew hline hs hplain) ?_
  refine ho.run _ _ _ _ _ _ tk S ?_
  unfold gCnt at P
  cases q1 : ga r with
  | stuck => rw [q1] at P; exact P.elim
  | exc x => rw [q1] at P; exact P
  | ok d =>
    rw [q1] at P
    intro v Hs1 H1 g1 k1
    split at P
    · rename_i ds qd
      cases qd
      split at P
      · rename_i ns qn
        obtain ⟨a, rfl, h1⟩ := k1.rb.intsInv g1.sub qn
        refine ⟨.inl ⟨rfl, _, SqL.of h1⟩, ?_⟩
        refine he.run _ _ _ _ _ _ tk (S.grow g1) ?_
        replace P := P.grow g1
        cases q2 : gb r with
        | stuck => rw [q2] at P; exact P.elim
        | exc x => rw [q2] at P; exact P
        | ok d2 =>
          rw [q2] at P
          intro v2 Hs2 H2 g2 k2
          cases d2 <;> first | exact P.elim | skip
          cases k2.rb.intInv
          have h2 := ((k1.rb.grow g2).intsInv g2.sub qn)
          obtain ⟨a2, ea, h2⟩ := h2
          cases ea
          exact ⟨a, ns, _, rfl, rfl, SqL.of h2, (P.grow g2).finV g2.sub (.int _)⟩
      · exact P.elim
    · rename_i qx; cases qx
    · exact P.elim
end
end VL
end

noncomputable section
namespace VL
open PySem PySem.Spec PyProof.Rows L2

/-! ### dicts with numbers and texts for keys -/
def keyD : Key → D
  | .inl i => .int i
  | .inr x => .str x
def keyOf : D → Option Key
  | .int i => some (.inl i)
  | .str x => some (.inr x)
  | _ => none
def pairK (p : Key × D) : D := .tup [keyD p.1, p.2]
def valD (ds : List (Key × D)) (k : Key) : Option D := (ds.find? fun kv => decide (kv.1 = k)).map (·.2)
theorem valD_pos {p : Key × D} {r : List (Key × D)} {k : Key} (e : p.1 = k) : valD (p :: r) k = some p.2 := by simp [valD, List.find?_cons, e]
theorem valD_neg {p : Key × D} {r : List (Key × D)} {k : Key} (e : ¬ p.1 = k) : valD (p :: r) k = valD r k := by simp [valD, List.find?_cons, e]
def putD (ds : List (Key × D)) (k : Key) (d : D) : List (Key × D) :=
  if (ds.any fun kv => decide (kv.1 = k)) = true then ds.map (fun kv => if kv.1 = k then (kv.1, d) else kv) else ds ++ [(k, d)]
theorem keyRep {cl : Cl} {H : Hp} (k : Key) : Rep cl H (keyD k) (kV k) := by
  cases k with
  | inl i => exact .int i
  | inr x => exact .str x
theorem keyOf_rb {cl : Cl} {Hs H : Hp} {d : D} {v : V} {k : Key} (h : RB cl Hs H d v) (q : keyOf d = some k) : v = kV k := by
  cases d <;> first | (cases q; done) | skip
  · cases q; exact h.intInv
  · cases q; exact h.strInv
section
variable {cl : Cl} {H : Hp}
theorem RepK.len : ∀ {ds : List (Key × D)} {xs : List (Key × V)}, RepK cl H ds xs → xs.length = ds.length
  | [], _, h => by cases h; rfl
  | _ :: _, _, h => by
    cases h with
    | cons _ h2 => rw [List.length_cons, List.length_cons, RepK.len h2]
theorem RepK.get : ∀ {ds : List (Key × D)} {xs : List (Key × V)} {i : Nat} {p : Key × D}, RepK cl H ds xs → ds[i]? = some p → ∃ v, xs[i]? = some (p.1, v) ∧ Rep cl H p.2 v
  | [], _, _, _, _, e => by simp at e
  | _ :: _, _, 0, _, h, e => by
    cases h with
    | cons h1 h2 => cases e; exact ⟨_, rfl, h1⟩
  | _ :: _, _, i + 1, _, h, e => by
    cases h with
    | cons h1 h2 => exact RepK.get (i := i) h2 e
theorem RepK.app : ∀ {ds es : List (Key × D)} {xs ys : List (Key × V)}, RepK cl H ds xs → RepK cl H es ys → RepK cl H (ds ++ es) (xs ++ ys)
  | [], _, _, _, h, g => by cases h; exact g
  | _ :: _, _, _, _, h, g => by
    cases h with
    | cons h1 h2 => exact .cons h1 (RepK.app h2 g)
theorem RepK.any (k : Key) : ∀ {ds : List (Key × D)} {xs : List (Key × V)}, RepK cl H ds xs → (xs.any fun kv => decide (kv.1 = k)) = ds.any fun kv => decide (kv.1 = k)
  | [], _, h => by cases h; rfl
  | _ :: _, _, h => by
    cases h with
    | cons h1 h2 => rw [List.any_cons, List.any_cons, RepK.any k h2]
theorem RepK.map (k : Key) {d : D} {v : V} (r : Rep cl H d v) : ∀ {ds : List (Key × D)} {xs : List (Key × V)}, RepK cl H ds xs → RepK cl H (ds.map fun kv => if kv.1 = k then (kv.1, d) else kv) (xs.map fun kv => if kv.1 = k then (kv.1, v) else kv)
  | [], _, h => by cases h; exact .nil
  | (k0, d0) :: _, _, h => by
    cases h with
    | cons h1 h2 =>
      rw [List.map_cons, List.map_cons]
      by_cases c : k0 = k
      · rw [if_pos c, if_pos c]; exact .cons r (RepK.map k r h2)
      · rw [if_neg c, if_neg c]; exact .cons h1 (RepK.map k r h2)
theorem RepK.put {ds : List (Key × D)} {xs : List (Key × V)} (h : RepK cl H ds xs) (k : Key) {d : D} {v : V} (r : Rep cl H d v) : RepK cl H (putD ds k d) (putK xs k v) := by
  unfold putD putK
  rw [h.any k]
  split
  · exact h.map k r
  · exact h.app (.cons r .nil)
theorem RepK.val (k : Key) : ∀ {ds : List (Key × D)} {xs : List (Key × V)}, RepK cl H ds xs → ∀ {d0 : D} {v0 : V}, Rep cl H d0 v0 → Rep cl H ((valD ds k).getD d0) ((valV xs k).getD v0)
  | [], _, h, _, _, r => by cases h; exact r
  | (k0, d0) :: _, _, h, _, _, r => by
    cases h with
    | cons h1 h2 =>
      by_cases c : k0 = k
      · rw [valD_pos c, valV_pos c]; exact h1
      · rw [valD_neg c, valV_neg c]; exact RepK.val k h2 r
end
section
variable {E : En} {Hs H : Hp} {ks : List Kd} {r : Sl} {σ : L2.St}
theorem StRel.mutK {i : Nat} {n : Option Addr} {ds : List (Key × D)} (S : StRel E Hs H ks r σ) (hk : ks[i]? = some (.own n)) (hd : r[i]? = some (some (.dct ds))) :
    ∃ a xs, σ[i]? = some (some (.ref a)) ∧ H a = some (.dK xs) ∧ RepK E.cl Hs ds xs ∧ ∀ ds' xs', RepK E.cl Hs ds' xs' → StRel E Hs (upd H a (.dK xs')) ks (r.set i (some (.dct ds'))) σ := by
  obtain ⟨As, S⟩ := S
  obtain ⟨pre, A, post, e, q1, _, _, q3⟩ := S.sl.at_ i hk
  obtain ⟨v, ev, o⟩ := q1 _ hd
  cases o with
  | ownV h0 h1 => cases h0
  | ownK h0 h1 h2 =>
    rename_i a xs
    refine ⟨a, xs, ev, h1, h2, fun ds' xs' rp => ?_⟩
    have ha : a ∈ As := by rw [e]; exact List.mem_append_right _ (List.mem_append_left _ (by simp))
    have nd := S.nd
    rw [e] at nd
    have hn : ∀ b ∈ pre ++ post, b ≠ a := fun b hb z => by
      subst z
      rcases List.mem_append.mp hb with w | w
      · exact (List.nodup_append.mp nd).2.2 _ w _ (List.mem_append_left _ (by simp)) rfl
      · exact (List.nodup_append.mp (List.nodup_append.mp nd).2.1).2.2 _ (by simp) _ w rfl
    have z := q3 Hs (upd H a (.dK xs')) (Same.refl _) (fun b hb => upd_ne (hn b hb)) (.own n) (.dct ds') (.ref a) [a] (.ownK h0 upd_same rp)
    have e1 : ks.set i (.own n) = ks := by
      obtain ⟨h, e2⟩ := List.getElem?_eq_some_iff.mp hk
      rw [← e2, List.set_getElem_self]
    have e3 : σ.set i (some (.ref a)) = σ := by
      obtain ⟨h, e2⟩ := List.getElem?_eq_some_iff.mp ev
      rw [← e2, List.set_getElem_self]
    rw [e1, e3] at z
    have dz := S.dis a ha
    refine ⟨_, z, nd, fun b hb => S.dis b (by rw [e]; exact hb), S.es, ⟨fun b u q nt => ?_⟩, ⟨fun b u q nt => ?_⟩, S.new, fun b q => ?_, fun P z => tab_mut h1 P (S.tb P z)⟩
    · have : b ≠ a := fun w => by rw [w, dz.1] at q; cases q
      rw [upd_ne this] at nt ⊢
      exact S.sub.k _ _ q nt
    · have : b ≠ a := fun w => by rw [w, dz.2] at q; cases q
      rw [upd_ne this] at nt ⊢
      exact S.eb.k _ _ q nt
    · have : b ≠ a := fun w => by rw [w, upd_same] at q; cases q
      rw [upd_ne this] at q
      exact S.dom _ q
theorem Slots.monoB {E' : En} (c : E'.cl = E.cl) (n : E'.h = E.h) (b : Same E.b E'.b) {H' : Hp} : ∀ {ks : List Kd} {r : Sl} {t : L2.St} {As : List Addr}, (∀ a ∈ As, H' a = H a) → Slots E Hs H ks r t As → Slots E' Hs H' ks r t As
  | _, _, _, _, _, .nil => .nil
  | _, _, _, _, k, .skip h => .skip (Slots.monoB c n b k h)
  | _, _, _, _, k, .cons h1 h2 => .cons (by rw [c]; exact ORep.mono (Same.refl _) b (fun a z => by show E'.h a = none; rw [n]; exact z) _ _ _ _ (fun a ha => k a (List.mem_append_left _ ha)) h1) (Slots.monoB c n b (fun a ha => k a (List.mem_append_right _ ha)) h2)
/-- the dict in slot i is locked: its name holds an address alone -/
theorem StRel.lock {i : Nat} {n : Option Addr} {ds : List (Key × D)} (S : StRel E Hs H ks r σ) (hk : ks[i]? = some (.own n)) (hd : r[i]? = some (some (.dct ds))) :
    ∃ a xs, σ[i]? = some (some (.ref a)) ∧ H a = some (.dK xs) ∧ RepK E.cl Hs ds xs ∧ Hs a = none ∧
      ∀ od, StRel ⟨E.cl, E.h, Hs, upd E.b a (.frz od (.dK xs))⟩ Hs (upd H a (.frz od (.dK xs))) (ks.set i (.adr a)) (r.set i (some .non)) σ := by
  obtain ⟨As, S⟩ := S
  obtain ⟨pre, A, post, e, q1, q2, _, _⟩ := S.sl.at_ i hk
  obtain ⟨v, ev, o⟩ := q1 _ hd
  cases o with
  | ownV h0 h1 => cases h0
  | ownK h0 h1 h2 =>
    rename_i a xs
    have ha : a ∈ As := by rw [e]; exact List.mem_append_right _ (List.mem_append_left _ (by simp))
    have dz := S.dis a ha
    refine ⟨a, xs, ev, h1, h2, dz.1, fun od => ?_⟩
    have nd := S.nd
    rw [e] at nd
    have hn : ∀ b ∈ pre ++ post, b ≠ a := fun b hb z => by
      subst z
      rcases List.mem_append.mp hb with w | w
      · exact (List.nodup_append.mp nd).2.2 _ w _ (List.mem_append_left _ (by simp)) rfl
      · exact (List.nodup_append.mp (List.nodup_append.mp nd).2.1).2.2 _ (by simp) _ w rfl
    have z0 := q2 (.adr a) .non (.ref a) [] .adr
    have e3 : σ.set i (some (.ref a)) = σ := by
      obtain ⟨h, e2⟩ := List.getElem?_eq_some_iff.mp ev
      rw [← e2, List.set_getElem_self]
    rw [e3, List.nil_append] at z0
    have bs : Same E.b (upd E.b a (.frz od (.dK xs))) := Same.updNew dz.2
    have z := Slots.monoB (E := E) (E' := ⟨E.cl, E.h, Hs, upd E.b a (.frz od (.dK xs))⟩) (H' := upd H a (.frz od (.dK xs))) rfl rfl bs (fun b hb => upd_ne (hn b hb)) z0
    have sub : (pre ++ post).Sublist As := by
      rw [e]
      exact List.Sublist.append (List.Sublist.refl _) (List.sublist_append_right _ _)
    refine ⟨_, z, S.nd.sublist sub, fun b hb => ⟨(S.dis b (sub.subset hb)).1, ?_⟩, Same.refl _, ⟨fun b u q nt => ?_⟩, S.eb.updBoth, fun b z => .inl z, fun b q => ?_, fun P z => tab_mut h1 P (S.tb P z)⟩
    · show upd E.b a _ b = none
      rw [upd_ne (hn b hb)]
      exact (S.dis b (sub.subset hb)).2
    · have : b ≠ a := fun w => by rw [w, dz.1] at q; cases q
      rw [upd_ne this] at nt ⊢
      exact S.sub.k _ _ q nt
    · have : b ≠ a := fun w => by rw [w, upd_same] at q; cases q
      rw [upd_ne this] at q
      exact S.dom _ q
end
def gLock (i : Nat) (g : List (Key × D) → Sl → R D) : Sl → R D := fun r => match r[i]? with
  | some (some (.dct ds)) => noX (g ds (r.set i (some .non)))
  | _ => .stuck
def gItems (i : Nat) (ds : List (Key × D)) : Sl → R (List D) := fun r => match r[i]? with
  | some (some _) => if ds.length ≤ szL then .ok (ds.map pairK) else .stuck
  | _ => .stuck
def gGet2 (i : Nat) (ge gf : Sl → R D) : Sl → R D := fun r => match r[i]? with
  | some (some (.dct ds)) => (match ge r with
    | .ok k => (match keyOf k with
      | some k => (match gf r with
        | .ok z => .ok ((valD ds k).getD z)
        | o => o)
      | none => .stuck)
    | o => o)
  | _ => .stuck
def mPut (i : Nat) (gk g : Sl → R D) : Sl → O := fun r => match r[i]? with
  | some (some (.dct ds)) => onR (g r) r fun d => onR (noX (gk r)) r fun z => (match keyOf z with
    | some k => if ds.length < szL then .nx (r.set i (some (.dct (putD ds k d)))) else .stuck
    | none => .stuck)
  | _ => .stuck
section
variable {X : Cx} {E : En} {kr : Kd} {fin : List Kd → Prop} {ks ks' : List Kd} {e f b : Expr} {ge gf gb g : Sl → R D} {pos p1 p2 apos cpos : Pos}
theorem se_dnew : SE X E ks (.own none) (.Dict [] [] pos) (gC (.dct [])) :=
  ⟨fun Hs H r σ W Q tk S P => we_of pe_dnewK fun p hp => P _ Hs _ (Grow.fresh S.sub hp) ⟨[p], .ownK ⟨hp, fun _ z => nomatch z⟩ upd_same .nil, by simp, fun a ha => by
    have : a = p := by simpa using ha
    subst this
    exact ⟨S.sub.free hp, hp⟩⟩⟩
theorem se_dget2 {i : Nat} {n : Option Addr} {x : Str} (hu : X.A.units + 65 < cLine) (he : SE X E ks .bor e ge) (hf : SE X E ks .val f gf) (hq : NmOk x) (hk : ks[i]? = some (.own n) := by rfl) (hN : X.N[i]? = some x := by rfl) (hv : Vis X.env.scope x := by first | exact Or.inl rfl | exact Or.inr (Or.inl rfl) | exact Or.inr (Or.inr rfl))
    (m : M2 X (.Name x p1) "get" apos e f cpos := by exact ⟨rfl, rfl, rfl, rfl⟩) : SE X E ks .val (.Call (.Attribute (.Name x p1) "get" apos) [e, f] [] cpos) (gGet2 i ge gf) := by
  refine ⟨fun Hs H r σ W Q tk S P => ?_⟩
  refine we_of (pe_dget2 (by omega) (pe_var hN hv hq.1 hq.2) pe_we pe_we m) ?_
  unfold gGet2 at P
  split at P
  · rename_i ds q
    obtain ⟨a, xs, ea, h1, r1, _⟩ := S.mutK hk q
    refine ⟨.ref a, ea, a, rfl, .inl ⟨xs, .inl h1⟩, ?_⟩
    refine he.run _ _ _ _ _ _ tk S ?_
    cases q1 : ge r with
    | stuck => rw [q1] at P; exact P.elim
    | exc x => rw [q1] at P; exact P
    | ok kd =>
      rw [q1] at P
      intro v1 Hs1 H1 g1 k1
      replace P := P.grow g1
      split at P
      · rename_i kd2 ek
        cases ek
        split at P
        · rename_i k qk
          have ev := keyOf_rb k1.rb qk
          subst ev
          have S1 := S.grow g1
          refine hf.run _ _ _ _ _ _ tk S1 ?_
          cases q2 : gf r with
          | stuck => rw [q2] at P; exact P.elim
          | exc x => rw [q2] at P; exact P
          | ok d0 =>
            rw [q2] at P
            intro v2 Hs2 H2 g2 k2
            obtain ⟨a2, xs2, ea2, h2, r2, _⟩ := (S1.grow g2).mutK hk q
            rw [ea] at ea2
            cases ea2
            exact ⟨valV xs2 k, DGet.k h2, (P.grow g2).finV g2.sub (r2.val k k2.rep)⟩
        · exact P.elim
      · rename_i o1 o2; cases ge r <;> simp_all
  · exact P.elim
theorem ss_dput {i : Nat} {n : Option Addr} {x : Str} (hu : X.A.units + 65 < cLine) (hb : SE X E ks .bor b gb) (he : SE X E ks .val e g) (hq : NmOk x) (hf : fin ks := by trivial) (hk : ks[i]? = some (.own n) := by rfl) (hN : X.N[i]? = some x := by rfl) (hv : Vis X.env.scope x := by first | exact Or.inl rfl | exact Or.inr (Or.inl rfl) | exact Or.inr (Or.inr rfl))
    (hs : swapsWith e (some (.Subscript (.Name x p1) b p2)) pos.line X.env = pure false := by rfl) : SS X E kr fin ks (.Assign [.Subscript (.Name x p1) b p2] e pos) (mPut i gb g) ks := by
  refine ⟨fun Hs H r σ W Dn tk S P => ?_⟩
  refine ws_of (ps_dput (by omega) (pe_var hN hv hq.1 hq.2) pe_we pe_we hs) ?_
  unfold mPut at P
  split at P
  · rename_i ds q
    refine he.run _ _ _ _ _ _ tk S (Post.ofS hf S P fun d v Hs' H' e1 g1 k1 P1 => ?_)
    have S1 := S.grow g1
    obtain ⟨a, xs, ea, h1, r1, _⟩ := S1.mutK hk q
    refine ⟨.ref a, ea, ?_⟩
    refine hb.run _ _ _ _ _ _ tk S1 ?_
    cases q1 : gb r with
    | stuck => rw [q1] at P1; exact P1.elim
    | exc z => rw [q1] at P1; exact P1.elim
    | ok z =>
      rw [q1] at P1
      dsimp only [onR, noX] at P1
      intro v2 Hs2 H2 g2 k2
      split at P1
      · rename_i k qk
        have ev := keyOf_rb k2.rb qk
        subst ev
        split at P1
        · rename_i hz
          obtain ⟨a', xs', ea', h2, r2, up⟩ := (S1.grow g2).mutK hk q
          rw [ea] at ea'
          cases ea'
          exact ⟨a, _, rfl, DPut.k h2 (by rw [szL_eq, r2.len]; exact hz), P1 _ _ _ (up _ _ (r2.put k (Rep.same g2.s _ _ k1.rep)))⟩
        · exact P1.elim
      · exact P1.elim
  · exact P.elim
theorem se_lock {i : Nat} {n : Option Addr} {gl : List (Key × D) → Sl → R D} (h : ∀ (ds : List (Key × D)) (a : Addr) (od : Obj) (xs : List (Key × V)) (s bb : Hp), RepK E.cl s ds xs → bb a = some (.frz od (.dK xs)) → SE X ⟨E.cl, E.h, s, bb⟩ (ks.set i (.adr a)) (.own none) e (gl ds))
    (hk : ks[i]? = some (.own n) := by rfl) : SE X E ks (.own none) e (gLock i gl) := by
  refine ⟨fun Hs H r σ W Q tk S P => ?_⟩
  unfold gLock at P
  split at P
  · rename_i ds q
    obtain ⟨a, xs, ea, h1, r1, hn, S1⟩ := S.lock hk q
    refine we_of (pe_lock pe_we) ?_
    refine ⟨a, .dK xs, h1, trivial, fun od => ?_⟩
    refine (h ds a od xs Hs _ r1 upd_same).run Hs _ _ σ W _ tk (S1 od) ?_
    cases q2 : gl ds (r.set i (some .non)) with
    | stuck => rw [q2] at P; exact P.elim
    | exc x => rw [q2] at P; exact P.elim
    | ok d =>
      rw [q2] at P
      intro v Hs2 H2 g2 k2
      have hf : H2 a = some (.frz od (.dK xs)) := g2.h.at _ _ upd_same
      have na : Hs2 a = none := by
        cases w : Hs2 a with
        | none => rfl
        | some u =>
          rcases g2.n a (by rw [w]; simp) with z | z
          · exact absurd hn z
          · rw [upd_same] at z; cases z
      refine ⟨hf, P v Hs2 (upd H2 a (.dK xs)) ⟨g2.s, ⟨fun b u qb nt => ?_⟩, fun c z => ?_, ⟨fun b u qb nt => ?_⟩, fun P z => tab_mut hf P (g2.t P (tab_mut h1 P z))⟩ ?_⟩
      · by_cases c : b = a
        · subst c
          rw [h1] at qb
          cases qb
          exact upd_same
        · rw [upd_ne c] at nt ⊢
          exact g2.h.k b u (by rw [upd_ne c]; exact qb) nt
      · rcases g2.n c z with w | w
        · exact .inl w
        · right
          have : c ≠ a := fun y => by rw [y, upd_same] at w; cases w
          rw [upd_ne this] at w
          exact w
      · have : b ≠ a := fun w => by rw [w, na] at qb; cases qb
        rw [upd_ne this] at nt ⊢
        exact g2.sub.k _ _ qb nt
      · obtain ⟨A, o, nd, z⟩ := k2
        have off : ∀ c, upd H a (.frz od (.dK xs)) c = none → c ≠ a ∧ H c = none := fun c w => by
          have : c ≠ a := fun y => by rw [y, upd_same] at w; cases w
          rw [upd_ne this] at w
          exact ⟨this, w⟩
        refine ⟨A, ?_, nd, fun c hc => ⟨(z c hc).1, (off c (z c hc).2).2⟩⟩
        exact ORep.mono (Same.refl _) (Same.refl _) (fun c w => (off c w).2) _ _ _ _ (fun c hc => upd_ne (off c (z c hc).2).1) (ORep.anyB _ _ _ _ rfl o)
  · exact P.elim
theorem si_items {i kk : Nat} {x : Str} {ds : List (Key × D)} {a : Addr} {od : Obj} {xs : List (Key × V)} {elts : List Expr} {tpos : Pos} (hr : RepK E.cl E.s ds xs) (hb : E.b a = some (.frz od (.dK xs))) (hq : NmOk x) (hk : ks[i]? = some (.adr a) := by rfl) (hN : X.N[i]? = some x := by rfl) (hv : Vis X.env.scope x := by first | exact Or.inl rfl | exact Or.inr (Or.inl rfl) | exact Or.inr (Or.inr rfl))
    (hbase : attributeBase (.Name x p1) "items" X.env (eval (.Name x p1) X.env) = eval (.Name x p1) X.env := by rfl) (hline : (apos.endLine == cpos.line) = true := by rfl) :
    SI X E ks false (.Tuple elts kk tpos) (.Call (.Attribute (.Name x p1) "items" apos) [] [] cpos) (gItems i ds) := by
  refine ⟨fun Hs H r σ W Q tk S P => ?_⟩
  unfold gItems at P
  split at P
  · rename_i d0 q
    split at P
    · rename_i hz
      obtain ⟨w, A, ew, ow⟩ := S.get hk q
      cases ow
      have eb : Same E.b H := let ⟨_, s⟩ := S; s.eb
      have es : Same E.s Hs := let ⟨_, s⟩ := S; s.es
      have ha : H a = some (.frz od (.dK xs)) := eb.at _ _ hb
      have hr2 : RepK E.cl Hs ds xs := RepK.same es _ _ hr
      refine ⟨_, pi_items (pe_var hN hv hq.1 hq.2) hbase hline, ?_⟩
      refine ⟨.ref a, ew, a, od, xs, rfl, ha, P _ Hs H (Grow.refl S.sub) ⟨by rw [List.length_map]; exact hz, fun Hs' H' e1 e2 e3 j hj => ?_, fun Hs' H' e1 e2 e3 => ?_, fun Hs' H' e1 e2 e3 j d v H'' hd y => ?_⟩⟩
      · rw [List.length_map] at hj
        exact ⟨e3.at _ _ ha, by rw [hr2.len]; exact hj⟩
      · rw [List.length_map]
        exact ⟨e3.at _ _ ha, by rw [hr2.len]; exact Nat.le_refl _⟩
      · obtain ⟨T, k, v', hx, rfl, hT, rfl⟩ := y
        rw [List.getElem?_map] at hd
        cases qd : ds[j]? with
        | none => rw [qd] at hd; cases hd
        | some p =>
          rw [qd] at hd
          cases hd
          obtain ⟨v2, e4, rp⟩ := hr2.get qd
          rw [hx] at e4
          cases e4
          have gn := Grow.new (o := .tup [kV p.1, v']) e2 hT
          exact ⟨_, gn, .tup upd_same (.cons (keyRep p.1) (.cons (Rep.same (e1.trans gn.s) _ _ rp) .nil))⟩
    · exact P.elim
  · exact P.elim
end
end VL
end

noncomputable section
namespace VL
open PySem PySem.Spec PyProof.Rows L2

/-! ### list(range(n)), list(range(a, b)) -/
def dRgL (a b : D) : R D := match a, b with
  | .int i, .int j => if (-i62 ≤ i ∧ i < i62) ∧ (-i62 ≤ j ∧ j < i62) ∧ (j - i).toNat ≤ 1000000 then .ok (.lst (rangeD i (j - i).toNat)) else .stuck
  | _, _ => .stuck
theorem rgV_rep {cl : Cl} {H : Hp} (i j : Int) : RepL cl H (rangeD i (j - i).toNat) (rgV i j) := by
  have e : rangeD i (j - i).toNat = ((List.range (j - i).toNat).map fun (k : Nat) => i + (k : Int)).map D.int := by
    unfold rangeD
    rw [List.map_map]
    rfl
  have e2 : rgV i j = ((List.range (j - i).toNat).map fun (k : Nat) => i + (k : Int)).map V.int := by
    unfold rgV
    rw [List.map_map]
    rfl
  rw [e, e2]
  exact RepL.ofInts _
section
variable {X : Cx} {E : En} {ks : List Kd} {a b : Expr} {ga gb : Sl → R D} {p p2 q pos : Pos}
theorem se_lrg2 (B : Bl X.mg) (ha : SE X E ks .bor a ga) (hb : SE X E ks .bor b gb) (hc : X.calm = true := by rfl) (hg : Gl X "list" := by rfl) (hg2 : Gl X "range" := by rfl)
    (na : starEach [a, b] X.env = (false, eval a X.env) :: starEach [b] X.env := by rfl) (nb : starEach [b] X.env = (false, eval b X.env) :: starEach [] X.env := by rfl) (hp : (backTo q (starEach [b] X.env)).any (·.1) = false := by rfl)
    (ne : starEach [.Call (.Name "range" p2) [a, b] [] q] X.env = (false, eval (.Call (.Name "range" p2) [a, b] [] q) X.env) :: starEach [] X.env := by rfl) :
    SE X E ks (.own none) (.Call (.Name "list" p) [.Call (.Name "range" p2) [a, b] [] q] [] pos) (gBin dRgL ga gb) := by
  refine ⟨fun Hs H r σ W Q tk S P => ?_⟩
  refine we_of (pe_listRg hc hg B.list (prg_2 hg2 B.range pe_we pe_we na nb hp) ne) ?_
  refine ha.run _ _ _ _ _ _ tk S (P.imp fun d1 v1 Hs1 H1 e1 g1 k1 P1 => ?_)
  refine hb.run _ _ _ _ _ _ tk (S.grow g1) (P1.imp fun d2 v2 Hs2 H2 e2 g2 k2 P2 => ?_)
  cases d1 <;> cases d2 <;> first | exact P2.elim | skip
  rename_i i j
  dsimp only [dRgL] at P2
  split at P2
  · rename_i h
    cases (k1.rb.grow g2).intInv
    cases k2.rb.intInv
    refine ⟨i, j, rfl, rfl, ?_, fun q hq => P2.finL g2.sub hq (rgV_rep i j)⟩
    have h' := h
    rw [i62_val] at h'
    exact ⟨h'.1.1, h'.1.2, h'.2.1.1, h'.2.1.2, by have := h'.2.2; omega⟩
  · exact P2.elim
theorem se_lrg1 (B : Bl X.mg) (ha : SE X E ks .bor a ga) (hc : X.calm = true := by rfl) (hg : Gl X "list" := by rfl) (hg2 : Gl X "range" := by rfl)
    (na : starEach [a] X.env = (false, eval a X.env) :: starEach [] X.env := by rfl)
    (ne : starEach [.Call (.Name "range" p2) [a] [] q] X.env = (false, eval (.Call (.Name "range" p2) [a] [] q) X.env) :: starEach [] X.env := by rfl) :
    SE X E ks (.own none) (.Call (.Name "list" p) [.Call (.Name "range" p2) [a] [] q] [] pos) (gUn (dRgL (.int 0)) ga) := by
  refine ⟨fun Hs H r σ W Q tk S P => ?_⟩
  refine we_of (pe_listRg hc hg B.list (prg_1 hg2 B.range pe_we na) ne) ?_
  refine ha.run _ _ _ _ _ _ tk S (P.imp fun d1 v1 Hs1 H1 e1 g1 k1 P1 => ?_)
  cases d1 <;> first | exact P1.elim | skip
  rename_i j
  dsimp only [dRgL] at P1
  split at P1
  · rename_i h
    cases k1.rb.intInv
    refine ⟨j, rfl, ?_, fun q hq => P1.finL g1.sub hq (rgV_rep 0 j)⟩
    have h' := h
    rw [i62_val] at h'
    exact ⟨h'.1.1, h'.1.2, h'.2.1.1, h'.2.1.2, by have := h'.2.2; omega⟩
  · exact P1.elim
end
end VL
end

noncomputable section
namespace VL
open PySem PySem.Spec PyProof.Rows L2

/-! ### reversed(xs), enumerate(xs) of lists -/
def dRevI : D → R (List D)
  | .lst ds => .ok ds.reverse
  | _ => .stuck
def enumD (ds : List D) : List D := ds.zipIdx.map fun p => .tup [.int (p.2 : Nat), p.1]
def dEnumI : D → R (List D)
  | .lst ds => .ok (enumD ds)
  | _ => .stuck
def gReversed (g : Sl → R D) : Sl → R (List D) := fun r => do
  let d ← g r
  dRevI d
def gEnumerate (g : Sl → R D) : Sl → R (List D) := fun r => do
  let d ← g r
  dEnumI d
theorem ItOk.rev {K : PySem.W.Frag} {cl : Cl} {a : Addr} {xs : List V} {ds : List D} {Hs Bq : Hp} (rp : RepL cl Hs ds xs) (rt : ∀ Hs' H, Same Hs Hs' → Same Hs' H → Same Bq H → H a = some (.lst xs)) (hz : xs.length ≤ szL) : ItOk cl (Itv K a xs.length) ds.reverse Hs Bq where
  len := by rw [List.length_reverse, ← rp.length]; exact hz
  go := fun Hs' H e1 e2 e3 i hi => by
    rw [List.length_reverse, ← rp.length] at hi
    exact ⟨hi, xs, xs[xs.length - 1 - i], SqL.of (rt Hs' H e1 e2 e3), List.getElem?_eq_getElem (by omega)⟩
  stop := fun Hs' H e1 e2 e3 => by rw [List.length_reverse, ← rp.length]; exact Nat.le_refl _
  yld := fun Hs' H e1 e2 e3 i d x H' hd y => by
    obtain ⟨rfl, y⟩ := y
    have hi : i < ds.length := by
      have := (List.getElem?_eq_some_iff.mp hd).1
      rwa [List.length_reverse] at this
    rw [List.getElem?_reverse hi] at hd
    obtain ⟨v, e, r⟩ := rp.get hd
    have q := y xs (SqL.of (rt Hs' _ e1 e2 e3))
    rw [rp.length, e] at q
    cases q
    exact ⟨Hs', Grow.refl e2, Rep.same e1 _ _ r⟩
theorem enumD_get {ds : List D} {i : Nat} {d : D} (h : (enumD ds)[i]? = some d) : ∃ d0, ds[i]? = some d0 ∧ d = .tup [.int (i : Nat), d0] := by
  unfold enumD at h
  rw [List.getElem?_map, List.getElem?_zipIdx] at h
  cases q : ds[i]? with
  | none => rw [q] at h; cases h
  | some d0 =>
    rw [q] at h
    refine ⟨d0, rfl, ?_⟩
    have h' : D.tup [.int ((0 + i : Nat) : Int), d0] = d := by simpa using h
    rw [← h', Nat.zero_add]
theorem ItOk.enum {K : PySem.W.Frag} {cl : Cl} {a : Addr} {xs : List V} {ds : List D} {Hs Bq : Hp} (rp : RepL cl Hs ds xs) (rt : ∀ Hs' H, Same Hs Hs' → Same Hs' H → Same Bq H → H a = some (.lst xs)) (hz : xs.length ≤ szL) : ItOk cl (Ite K a) (enumD ds) Hs Bq where
  len := by unfold enumD; rw [List.length_map, List.length_zipIdx, ← rp.length]; exact hz
  go := fun Hs' H e1 e2 e3 i hi => by
    have hi' : i < ds.length := by unfold enumD at hi; rwa [List.length_map, List.length_zipIdx] at hi
    obtain ⟨v, e, _⟩ := rp.get (d := ds[i]) (i := i) (by simp [hi'])
    exact ⟨xs, v, SqL.of (rt Hs' H e1 e2 e3), e⟩
  stop := fun Hs' H e1 e2 e3 => ⟨xs, SqL.of (rt Hs' H e1 e2 e3), by unfold enumD; rw [List.length_map, List.length_zipIdx, rp.length]; exact Nat.le_refl _⟩
  yld := fun Hs' H e1 e2 e3 i d x H' hd y => by
    obtain ⟨T, z, rfl, hT, rfl, y⟩ := y
    obtain ⟨d0, hd0, rfl⟩ := enumD_get hd
    obtain ⟨v, e, r⟩ := rp.get hd0
    have q := y xs (SqL.of (rt Hs' _ e1 e2 e3))
    rw [e] at q
    cases q
    exact ⟨_, Grow.new e2 hT, .tup upd_same (.cons (.int _) (.cons (Rep.same (e1.trans (Same.updNew (e2.free hT))) _ _ r) .nil))⟩
section
variable {X : Cx} {E : En} {ks : List Kd} {md : Bool} {tg e : Expr} {g : Sl → R D} {p pos : Pos}
theorem si_reversed (hm : X.mg "reversed" = none) (h : SQ X E ks md e g) (hg : Gl X "reversed" := by rfl) (hs : starEach [e] X.env = [(false, eval e X.env)] := by rfl) : SI X E ks md tg (.Call (.Name "reversed" p) [e] [] pos) (gReversed g) := by
  refine ⟨fun Hs H r σ W Q tk S P => ?_⟩
  have sb : Same E.b H := let ⟨_, s⟩ := S; s.eb
  unfold gReversed at P
  refine ⟨_, pi_reversed hg hm (pa_cons pe_we pa_nil hs) hs, ?_⟩
  refine we_len (h.run _ _ _ _ _ _ tk S (PostQ.ofI (f := dRevI) P fun d v Hs1 H1 e1 g1 k1 P1 => ?_))
  cases d <;> first | exact P1.elim | skip
  obtain ⟨a, xs, rfl, rp, rt⟩ := k1.root (H := H1) (Hs' := Hs1)
  intro hl
  have e0 := rt Hs1 H1 (Same.refl _) g1.sub (bq_same (sb.trans g1.h))
  exact ⟨a, xs, rfl, SqL.of e0, P1 _ Hs1 H1 (Grow.refl g1.sub) (ItOk.rev rp rt (hl.1 _ _ e0))⟩
theorem si_enumerate {elts : List Expr} {kk : Nat} {tpos : Pos} (hm : X.mg "enumerate" = none) (h : SQ X E ks md e g) (hg : Gl X "enumerate" := by rfl) (hs : starEach [e] X.env = [(false, eval e X.env)] := by rfl) : SI X E ks md (.Tuple elts kk tpos) (.Call (.Name "enumerate" p) [e] [] pos) (gEnumerate g) := by
  refine ⟨fun Hs H r σ W Q tk S P => ?_⟩
  have sb : Same E.b H := let ⟨_, s⟩ := S; s.eb
  unfold gEnumerate at P
  refine ⟨_, pi_enum hg hm (pa_cons pe_we pa_nil hs) hs, ?_⟩
  refine we_len (h.run _ _ _ _ _ _ tk S (PostQ.ofI (f := dEnumI) P fun d v Hs1 H1 e1 g1 k1 P1 => ?_))
  cases d <;> first | exact P1.elim | skip
  obtain ⟨a, xs, rfl, rp, rt⟩ := k1.root (H := H1) (Hs' := Hs1)
  intro hl
  have e0 := rt Hs1 H1 (Same.refl _) g1.sub (bq_same (sb.trans g1.h))
  exact ⟨a, xs, rfl, SqL.of e0, P1 _ Hs1 H1 (Grow.refl g1.sub) (ItOk.enum rp rt (hl.1 _ _ e0))⟩
end
/-- None where a fresh list may stand -/
theorem se_nonO {X : Cx} {E : En} {ks : List Kd} {j : Nat} {pos : Pos} : SE X E ks (.own none) (.Constant .none j pos) (gC .non) := ⟨fun Hs H r σ W Q tk S P => we_of pe_non (P .non Hs H (Grow.refl S.sub) (RK.ownPlain rfl .non))⟩
end VL
end

noncomputable section
namespace VL
open PySem PySem.Spec PyProof.Rows L2

/-! ### a heap without some addresses -/
def sans (H : Hp) (A : List Addr) : Hp := fun a => if a ∈ A then none else H a
section
variable {H H' Hs : Hp} {A : List Addr} {a : Addr}
theorem sans_in (h : a ∈ A) : sans H A a = none := by unfold sans; rw [if_pos h]
theorem sans_out (h : a ∉ A) : sans H A a = H a := by unfold sans; rw [if_neg h]
theorem sans_same : Same (sans H A) H := ⟨fun b o q _ => by
  by_cases h : b ∈ A
  · rw [sans_in h] at q; cases q
  · rw [sans_out h] at q; exact q⟩
theorem sans_none (h : sans H A a = none) : a ∈ A ∨ H a = none := by
  by_cases z : a ∈ A
  · exact .inl z
  · rw [sans_out z] at h; exact .inr h
theorem sans_of (h : H a = none) : sans H A a = none := by
  by_cases z : a ∈ A
  · exact sans_in z
  · rw [sans_out z]; exact h
theorem sans_sub (e : Same Hs H) (z : ∀ a ∈ A, Hs a = none) : Same Hs (sans H A) := ⟨fun b o q nt => by
  have hn : b ∉ A := fun w => by rw [z b w] at q; cases q
  rw [sans_out hn] at nt ⊢
  exact e.k _ _ q nt⟩
end
/-- no list, dict or instance is a code object -/
def Dat (o : HO) : Prop := NT o ∧ ∀ c q, o ≠ LamX.CodeO c q
mutual
theorem ORep.dat {cl : Cl} {N : Addr → Prop} {B Hs H : Hp} : ∀ (k : Kd) (d : D) (v : V) (A : List Addr), ORep cl N B Hs H k d v A → ∀ a ∈ A, (∃ o, H a = some o ∧ Dat o) ∧ N a
  | .val, _, _, _, h => by cases h; intro a z; cases z
  | .bor, _, _, _, h => by cases h <;> (intro a z; cases z)
  | .own n, _, _, _, h => by
    cases h with
    | ownL h0 h1 _ => intro a z; simp at z; subst z; exact ⟨⟨_, h1, (by intro _ z; cases z), by intro _ _ z; unfold LamX.CodeO at z; cases z⟩, h0.1⟩
    | ownK h0 h1 _ => intro a z; simp at z; subst z; exact ⟨⟨_, h1, (by intro _ z; cases z), by intro _ _ z; unfold LamX.CodeO at z; cases z⟩, h0.1⟩
    | ownV _ _ => intro a z; cases z
  | .obj n ks, _, _, _, h => by
    cases h with
    | obj h0 _ h2 h3 =>
      intro a z
      rcases List.mem_cons.mp z with e | z
      · rw [e]; exact ⟨⟨_, h2, (by intro _ z; cases z), by intro _ _ z; unfold LamX.CodeO at z; cases z⟩, h0.1⟩
      · exact OFs.dat ks _ _ _ h3 a z
  | .adr a, _, _, _, h => by cases h; intro a z; cases z
  | .lls n k, _, _, _, h => by
    cases h with
    | lls h0 h1 h2 =>
      intro a z
      rcases List.mem_cons.mp z with e | z
      · rw [e]; exact ⟨⟨_, h1, (by intro _ z; cases z), by intro _ _ z; unfold LamX.CodeO at z; cases z⟩, h0.1⟩
      · exact OLs.all (P := fun a => (∃ o, H a = some o ∧ Dat o) ∧ N a) (fun d v A o => ORep.dat k d v A o) h2 a z
    | llT h0 h1 h2 =>
      intro a z
      rcases List.mem_cons.mp z with e | z
      · rw [e]; exact ⟨⟨_, h1, (by intro _ z; cases z), by intro _ _ z; unfold LamX.CodeO at z; cases z⟩, h0.1⟩
      · exact OLs.all (P := fun a => (∃ o, H a = some o ∧ Dat o) ∧ N a) (fun d v A o => ORep.dat k d v A o) h2 a z
    | llV _ _ => intro a z; cases z
theorem OFs.dat {cl : Cl} {N : Addr → Prop} {B Hs H : Hp} : ∀ (ks : List (Str × Kd)) (ds : List (Str × D)) (xs : List (Str × V)) (A : List Addr), OFs cl N B Hs H ks ds xs A → ∀ a ∈ A, (∃ o, H a = some o ∧ Dat o) ∧ N a
  | [], _, _, _, h => by cases h; intro a z; cases z
  | (f, k) :: ks, _, _, _, h => by
    cases h with
    | cons h1 h2 =>
      intro a z
      rcases List.mem_append.mp z with z | z
      · exact ORep.dat k _ _ _ h1 a z
      · exact OFs.dat ks _ _ _ h2 a z
end
section
variable {cl : Cl} {N N' : Addr → Prop} {B B' Hs H : Hp}
mutual
/-- another way to say what is new -/
theorem ORep.renew : ∀ (k : Kd) (d : D) (v : V) (A : List Addr), k.fine = true → (∀ a ∈ A, N' a) → ORep cl N B Hs H k d v A → ORep cl N' B' Hs H k d v A
  | .val, _, _, _, _, _, h => by
    cases h with
    | val h1 => exact .val h1
  | .bor, _, _, _, z, _, _ => by cases z
  | .own n, _, _, _, _, z, h => by
    cases h with
    | ownL h0 h1 h2 => exact .ownL ⟨z _ List.mem_cons_self, h0.2⟩ h1 h2
    | ownK h0 h1 h2 => exact .ownK ⟨z _ List.mem_cons_self, h0.2⟩ h1 h2
    | ownV h0 h1 => exact .ownV h0 h1
  | .obj n ks, _, _, _, f, z, h => by
    cases h with
    | obj h0 h1 h2 h3 => exact .obj ⟨z _ List.mem_cons_self, h0.2⟩ h1 h2 (OFs.renew ks _ _ _ (by simpa [Kd.fine] using f) (fun a ha => z a (List.mem_cons_of_mem _ ha)) h3)
  | .adr _, _, _, _, z, _, _ => by cases z
  | .lls n k, _, _, _, f, z, h => by
    cases h with
    | lls h0 h1 h2 => exact .lls ⟨z _ List.mem_cons_self, h0.2⟩ h1 (OLs.imp (fun A => ∀ a ∈ A, N' a) (fun _ _ t a ha => t a (List.mem_append_left _ ha)) (fun _ _ t a ha => t a (List.mem_append_right _ ha)) (fun d v A t o => ORep.renew k d v A f t o) (fun a ha => z a (List.mem_cons_of_mem _ ha)) h2)
    | llT h0 h1 h2 => exact .llT ⟨z _ List.mem_cons_self, h0.2⟩ h1 (OLs.imp (fun A => ∀ a ∈ A, N' a) (fun _ _ t a ha => t a (List.mem_append_left _ ha)) (fun _ _ t a ha => t a (List.mem_append_right _ ha)) (fun d v A t o => ORep.renew k d v A f t o) (fun a ha => z a (List.mem_cons_of_mem _ ha)) h2)
    | llV h0 h1 => exact .llV h0 h1
theorem OFs.renew : ∀ (ks : List (Str × Kd)) (ds : List (Str × D)) (xs : List (Str × V)) (A : List Addr), Kd.fine.fines ks = true → (∀ a ∈ A, N' a) → OFs cl N B Hs H ks ds xs A → OFs cl N' B' Hs H ks ds xs A
  | [], _, _, _, _, _, h => by cases h; exact .nil
  | (f, k) :: ks, _, _, _, fz, z, h => by
    have z' : k.fine = true ∧ Kd.fine.fines ks = true := by simpa [Kd.fine.fines] using fz
    cases h with
    | cons h1 h2 => exact .cons (ORep.renew k _ _ _ z'.1 (fun a ha => z a (List.mem_append_left _ ha)) h1) (OFs.renew ks _ _ _ z'.2 (fun a ha => z a (List.mem_append_right _ ha)) h2)
end
/-- several things that are lent -/
inductive RM (cl : Cl) (N : Addr → Prop) (B Hs H : Hp) : List Kd → List D → List V → List Addr → Prop
  | nil : RM cl N B Hs H [] [] [] []
  | cons {k : Kd} {d : D} {v : V} {A As : List Addr} {ks : List Kd} {ds : List D} {vs : List V} : ORep cl N B Hs H k d v A → RM cl N B Hs H ks ds vs As → RM cl N B Hs H (k :: ks) (d :: ds) (v :: vs) (A ++ As)
theorem RM.renew : ∀ {ks : List Kd} {ds : List D} {vs : List V} {A : List Addr}, ks.all Kd.fine = true → (∀ a ∈ A, N' a) → RM cl N B Hs H ks ds vs A → RM cl N' B' Hs H ks ds vs A
  | _, _, _, _, _, _, .nil => .nil
  | _, _, _, _, f, z, .cons o t => by
    have f' := f
    rw [List.all_cons, Bool.and_eq_true] at f'
    exact .cons (ORep.renew _ _ _ _ f'.1 (fun a ha => z a (List.mem_append_left _ ha)) o) (RM.renew f'.2 (fun a ha => z a (List.mem_append_right _ ha)) t)
theorem RM.dat : ∀ {ks : List Kd} {ds : List D} {vs : List V} {A : List Addr}, RM cl N B Hs H ks ds vs A → ∀ a ∈ A, (∃ o, H a = some o ∧ Dat o) ∧ N a
  | _, _, _, _, .nil => fun a z => nomatch z
  | _, _, _, _, .cons o t => fun a z => by
    rcases List.mem_append.mp z with z | z
    · exact ORep.dat _ _ _ _ o a z
    · exact RM.dat t a z
theorem RM.mono {Hs' H' : Hp} (e : Same Hs Hs') : ∀ {ks : List Kd} {ds : List D} {vs : List V} {A : List Addr}, (∀ a ∈ A, H' a = H a) → RM cl N B Hs H ks ds vs A → RM cl N B Hs' H' ks ds vs A
  | _, _, _, _, _, .nil => .nil
  | _, _, _, _, q, .cons o t => .cons (ORep.mono e (Same.refl _) (fun _ z => z) _ _ _ _ (fun a ha => q a (List.mem_append_left _ ha)) o) (RM.mono e (fun a ha => q a (List.mem_append_right _ ha)) t)
theorem RM.len : ∀ {ks : List Kd} {ds : List D} {vs : List V} {A : List Addr}, RM cl N B Hs H ks ds vs A → ds.length = ks.length ∧ vs.length = ks.length
  | _, _, _, _, .nil => ⟨rfl, rfl⟩
  | _, _, _, _, .cons o t => by simp [RM.len t]
end
theorem tab_sans {H : Hp} {A : List Addr} (z : ∀ a ∈ A, ∃ o, H a = some o ∧ Dat o) (P : Addr) (t : LamX.TabS H P lamQ) : LamX.TabS (sans H A) P lamQ := by
  obtain ⟨ps, h1, h2, h3⟩ := t
  have e : ∀ b u, H b = some u → ¬ Dat u → sans H A b = some u := fun b u q n => by
    by_cases w : b ∈ A
    · obtain ⟨o, e1, e2⟩ := z b w
      rw [q] at e1
      cases e1
      exact (n e2).elim
    · rw [sans_out w]; exact q
  refine ⟨ps, e _ _ h1 fun w => w.1 ps rfl, h2, fun pos cv hc => ?_⟩
  obtain ⟨c, e1, e2⟩ := h3 pos cv hc
  exact ⟨c, e1, e _ _ e2 fun w => w.2 c lamQ rfl⟩

/-! ### the state's front -/
section
variable {E : En} {Hs H Hs' H' : Hp} {ks : List Kd} {r : Sl} {σ : L2.St} {As : List Addr}
theorem Slots.front : ∀ {kf : List Kd} {df : List D} {uf : List V} {As : List Addr}, df.length = kf.length → uf.length = kf.length → Slots E Hs H (kf ++ ks) (df.map some ++ r) (uf.map some ++ σ) As → ∃ Af Ar, As = Af ++ Ar ∧ RM E.cl E.N E.b Hs H kf df uf Af ∧ Slots E Hs H ks r σ Ar
  | [], [], [], As, _, _, h => ⟨[], As, rfl, .nil, h⟩
  | k :: kf, d :: df, u :: uf, As, l1, l2, h => by
    cases h with
    | cons o t =>
      obtain ⟨Af, Ar, e, m, s⟩ := Slots.front (by simpa using l1) (by simpa using l2) t
      exact ⟨_ ++ Af, Ar, by rw [e, List.append_assoc], .cons o m, s⟩
  | [], _ :: _, _, _, l1, _, _ => by cases l1
  | [], [], _ :: _, _, _, l2, _ => by cases l2
  | _ :: _, [], _, _, l1, _, _ => by cases l1
  | _ :: _, _ :: _, [], _, _, l2, _ => by cases l2
theorem Slots.join : ∀ {kf : List Kd} {df : List D} {uf : List V} {Af Ar : List Addr}, RM E.cl E.N E.b Hs H kf df uf Af → Slots E Hs H ks r σ Ar → Slots E Hs H (kf ++ ks) (df.map some ++ r) (uf.map some ++ σ) (Af ++ Ar)
  | _, _, _, _, _, .nil, s => s
  | _, _, _, _, _, .cons o m, s => by
    rw [List.append_assoc]
    exact .cons o (Slots.join m s)
theorem StRel.pop {k : Kd} {o : Option D} {v : Option V} (S : StRel E Hs H (k :: ks) (o :: r) (v :: σ)) : StRel E Hs H ks r σ := by
  obtain ⟨As, S⟩ := S
  have sl := S.sl
  cases sl with
  | skip t => exact ⟨_, t, S.nd, S.dis, S.es, S.sub, S.eb, S.new, S.dom, S.tb⟩
  | cons o t => exact ⟨_, t, (List.nodup_append.mp S.nd).2.1, fun a ha => S.dis a (List.mem_append_right _ ha), S.es, S.sub, S.eb, S.new, S.dom, S.tb⟩
/-- the front's value goes to slot i -/
theorem StRel.settle {k k0 : Kd} {d : D} {v : V} {i : Nat} (S : StRel E Hs H (k :: ks) (some d :: r) (some v :: σ)) (hk : ks[i]? = some k0) : StRel E Hs H (ks.set i k) (r.set i (some d)) (σ.set i (some v)) := by
  obtain ⟨As, S⟩ := S
  have sl := S.sl
  cases sl with
  | cons o t =>
    rename_i A Ar
    obtain ⟨pre, A0, post, e, _, q, _, _⟩ := t.at_ i hk
    have nd := S.nd
    subst e
    have p1 : (pre ++ (A ++ post)).Perm (A ++ (pre ++ post)) := by
      rw [← List.append_assoc, ← List.append_assoc]
      exact List.Perm.append_right _ List.perm_append_comm
    have s1 : (A ++ (pre ++ post)).Sublist (A ++ (pre ++ (A0 ++ post))) := List.Sublist.append (List.Sublist.refl _) (List.Sublist.append (List.Sublist.refl _) (List.sublist_append_right _ _))
    exact ⟨_, q k d v A o, p1.nodup_iff.mpr (nd.sublist s1), fun a ha => S.dis a (s1.subset (p1.mem_iff.mp ha)), S.es, S.sub, S.eb, S.new, S.dom, S.tb⟩
theorem grow_sans {Af : List Addr} (g : Grow Hs (sans H Af) Hs' H') {a : Addr} {o : HO} (h : H a = some o) (nt : NT o) (hn : a ∉ Af) : H' a = some o := g.h.at a o (by rw [sans_out hn]; exact h) nt
/-- the front is lent and comes back otherwise -/
theorem StRel.lend {kf : List Kd} {df : List D} {uf : List V} (S : StRel E Hs H (kf ++ ks) (df.map some ++ r) (uf.map some ++ σ)) (l1 : df.length = kf.length) (l2 : uf.length = kf.length) (fk : kf.all Kd.fine = true) :
    ∃ Af, RM E.cl (fun a => sans H Af a = none) (sans H Af) Hs H kf df uf Af ∧ Af.Nodup ∧ (∀ a ∈ Af, Hs a = none) ∧
      ∀ (Hs' H' : Hp) (k2 : List Kd) (d2 : List D) (u2 : List V) (A2 : List Addr), k2.all Kd.fine = true → Grow Hs (sans H Af) Hs' H' → RM E.cl (fun a => sans H Af a = none) (sans H Af) Hs' H' k2 d2 u2 A2 → A2.Nodup → (∀ a ∈ A2, Hs' a = none ∧ sans H Af a = none) →
        StRel E Hs' H' (k2 ++ ks) (d2.map some ++ r) (u2.map some ++ σ) ∧
        ∀ (k : Kd) (d : D) (v : V) (A0 : List Addr), k.fine = true → ORep E.cl (fun a => sans H Af a = none) (sans H Af) Hs' H' k d v A0 → (A0 ++ A2).Nodup → (∀ a ∈ A0, Hs' a = none ∧ sans H Af a = none) →
          StRel E Hs' H' (k :: (k2 ++ ks)) (some d :: (d2.map some ++ r)) (some v :: (u2.map some ++ σ)) := by
  obtain ⟨As, S⟩ := S
  obtain ⟨Af, Ar, e, m, t⟩ := S.sl.front l1 l2
  subst e
  have nd := List.nodup_append.mp S.nd
  have df' : ∀ a ∈ Af, Hs a = none ∧ E.b a = none := fun a ha => S.dis a (List.mem_append_left _ ha)
  refine ⟨Af, RM.renew fk (fun a ha => sans_in ha) m, nd.1, fun a ha => (df' a ha).1, fun Hs' H' k2 d2 u2 A2 fk2 g m2 nd2 di2 => ?_⟩
  have allN : ∀ a, sans H Af a = none → E.h a = none := fun a z => by
    rcases sans_none z with w | w
    · exact (m.dat a w).2
    · exact S.dom a w
  have hr : ∀ a ∈ Ar, a ∉ Af := fun a ha w => nd.2.2 a w a ha rfl
  have tz : ∀ a ∈ Ar, ∃ o, H a = some o ∧ NT o ∧ H' a = some o := fun a ha => by
    obtain ⟨o, e, nt⟩ := t.here a ha
    exact ⟨o, e, nt, grow_sans g e nt (hr a ha)⟩
  have t2 : Slots E Hs' H' ks r σ Ar := t.mono g.s fun a ha => by
    obtain ⟨o, e, _, e2⟩ := tz a ha
    rw [e, e2]
  have dr : ∀ a ∈ Ar, Hs' a = none ∧ E.b a = none := fun a ha => by
    have z := S.dis a (List.mem_append_right _ ha)
    refine ⟨?_, z.2⟩
    cases q : Hs' a with
    | none => rfl
    | some u =>
      rcases g.n a (by rw [q]; simp) with w | w
      · exact absurd z.1 w
      · rcases sans_none w with w | w
        · exact (hr a ha w).elim
        · obtain ⟨o, e, _⟩ := tz a ha
          rw [e] at w; cases w
  have sep : ∀ a, sans H Af a = none → a ∉ Ar := fun a z ha => by
    rcases sans_none z with w | w
    · exact hr a ha w
    · obtain ⟨o, e, _⟩ := tz a ha
      rw [e] at w; cases w
  have ebz : ∀ a, sans H Af a = none → E.b a = none := fun a z => by
    rcases sans_none z with w | w
    · exact (df' a w).2
    · exact S.eb.free w
  have eb : Same E.b H' := (sans_sub (A := Af) S.eb fun a ha => (df' a ha).2).trans g.h
  have new : ∀ a, Hs' a ≠ none → E.s a ≠ none ∨ E.h a = none := fun a z => by
    rcases g.n a z with w | w
    · exact S.new a w
    · exact .inr (allN a w)
  have dom : ∀ a, H' a = none → E.h a = none := fun a z => allN a (g.h.free z)
  have tb : ∀ P, LamX.TabS E.h P lamQ → LamX.TabS H' P lamQ := fun P z => g.t P (tab_sans (fun a ha => (m.dat a ha).1) P (S.tb P z))
  have m2' : RM E.cl E.N E.b Hs' H' k2 d2 u2 A2 := RM.renew fk2 (fun a ha => allN a (di2 a ha).2) m2
  have J := Slots.join m2' t2
  have nd3 : (A2 ++ Ar).Nodup := List.nodup_append.mpr ⟨nd2, nd.2.1, fun a ha b hb z => sep a (di2 a ha).2 (z ▸ hb)⟩
  have dis3 : ∀ a ∈ A2 ++ Ar, Hs' a = none ∧ E.b a = none := fun a ha => by
    rcases List.mem_append.mp ha with w | w
    · exact ⟨(di2 a w).1, ebz a (di2 a w).2⟩
    · exact dr a w
  refine ⟨⟨_, J, nd3, dis3, S.es.trans g.s, g.sub, eb, new, dom, tb⟩, fun k d v A0 fk0 o nd0 di0 => ?_⟩
  refine ⟨_, .cons (ORep.renew k _ _ _ fk0 (fun a ha => allN a (di0 a ha).2) o) J, ?_, fun a ha => ?_, S.es.trans g.s, g.sub, eb, new, dom, tb⟩
  · rw [← List.append_assoc]
    exact List.nodup_append.mpr ⟨nd0, nd.2.1, fun a ha b hb z => by
      rcases List.mem_append.mp ha with w | w
      · exact sep a (di0 a w).2 (z ▸ hb)
      · exact sep a (di2 a w).2 (z ▸ hb)⟩
  · rcases List.mem_append.mp ha with w | w
    · exact ⟨(di0 a w).1, ebz a (di0 a w).2⟩
    · exact dis3 a w
end
/-! ### pinned kinds -/
def Kd.re (n : Option Addr) : Kd → Kd
  | .own _ => .own n
  | .obj _ ks => .obj n ks
  | .lls _ k => .lls n k
  | k => k
def Kd.isObj : Kd → Bool
  | .obj _ _ => true
  | _ => false
section
variable {cl : Cl} {N : Addr → Prop} {B Hs H : Hp} {d : D} {v : V} {A : List Addr} {n : Option Addr} {kk : List (Str × Kd)}
theorem ORep.pinO (h : ORep cl N B Hs H (.obj n kk) d v A) : ∃ a, v = .ref a ∧ ORep cl N B Hs H (.obj (some a) kk) d (.ref a) A ∧ ∀ b, n = some b → b = a := by
  cases h with
  | obj h0 h1 h2 h3 => exact ⟨_, rfl, .obj ⟨h0.1, fun b z => (Option.some.inj z).symm⟩ h1 h2 h3, h0.2⟩
theorem ORep.unpinO {a : Addr} (h : ORep cl N B Hs H (.obj (some a) kk) d v A) (hn : ∀ b, n = some b → b = a) : ORep cl N B Hs H (.obj n kk) d v A := by
  cases h with
  | obj h0 h1 h2 h3 =>
    have e := h0.2 _ rfl
    subst e
    exact .obj ⟨h0.1, hn⟩ h1 h2 h3
theorem ORep.atO {a : Addr} (h : ORep cl N B Hs H (.obj (some a) kk) d v A) : v = .ref a := by
  cases h with
  | obj h0 h1 h2 h3 => rw [h0.2 _ rfl]
end
end VL
end

noncomputable section
namespace VL
open PySem PySem.Spec PyProof.Rows L2

/-! ### the fields of an object by their places -/
theorem lookup_at {α : Type} {f : Str} : ∀ {fs : List (Str × α)} {j : Nat} {v : α}, (fs.map (·.1)).Nodup → fs[j]? = some (f, v) → fs.lookup f = some v
  | [], _, _, _, h => by simp at h
  | (g, x) :: r, 0, v, _, h => by
    simp at h
    obtain ⟨rfl, rfl⟩ := h
    simp [List.lookup]
  | (g, x) :: r, j + 1, v, nd, h => by
    rw [List.map_cons, List.nodup_cons] at nd
    have h' : r[j]? = some (f, v) := by simpa using h
    have hm : f ∈ r.map (·.1) := List.mem_map.mpr ⟨(f, v), List.mem_of_getElem? h', rfl⟩
    have hb : (f == g) = false := beq_eq_false_iff_ne.mpr fun e => nd.1 (e ▸ hm)
    rw [List.lookup, hb]
    exact lookup_at nd.2 h'
theorem lookup_out {α : Type} {f : Str} : ∀ {fs : List (Str × α)}, f ∉ fs.map (·.1) → fs.lookup f = none
  | [], _ => rfl
  | (g, x) :: r, h => by
    rw [List.map_cons, List.mem_cons] at h
    have hb : (f == g) = false := beq_eq_false_iff_ne.mpr fun e => h (.inl e)
    rw [List.lookup, hb]
    exact lookup_out fun z => h (.inr z)
theorem putF_at {f : Str} {y : V} : ∀ {fs : List (Str × V)} {j : Nat} {v : V}, (fs.map (·.1)).Nodup → fs[j]? = some (f, v) → putF f y fs = fs.set j (f, y)
  | [], _, _, _, h => by simp at h
  | (g, x) :: r, 0, v, _, h => by
    simp at h
    obtain ⟨rfl, rfl⟩ := h
    simp [putF]
  | (g, x) :: r, j + 1, v, nd, h => by
    rw [List.map_cons, List.nodup_cons] at nd
    have h' : r[j]? = some (f, v) := by simpa using h
    have hm : f ∈ r.map (·.1) := List.mem_map.mpr ⟨(f, v), List.mem_of_getElem? h', rfl⟩
    have hb : ¬ g = f := fun e => nd.1 (e ▸ hm)
    rw [putF, if_neg hb, putF_at nd.2 h']
    rfl
theorem putF_out {f : Str} {y : V} : ∀ {fs : List (Str × V)}, f ∉ fs.map (·.1) → putF f y fs = fs ++ [(f, y)]
  | [], _ => rfl
  | (g, x) :: r, h => by
    rw [List.map_cons, List.mem_cons] at h
    rw [putF, if_neg fun e => h (.inl e.symm), putF_out fun z => h (.inr z)]
    rfl
section
variable {cl : Cl} {N : Addr → Prop} {B Hs H : Hp}
theorem OFs.names : ∀ {ks : List (Str × Kd)} {ds : List (Str × D)} {xs : List (Str × V)} {As : List Addr}, OFs cl N B Hs H ks ds xs As → xs.map (·.1) = ks.map (·.1) ∧ ds.map (·.1) = ks.map (·.1)
  | _, _, _, _, .nil => ⟨rfl, rfl⟩
  | _, _, _, _, .cons o t => by simp [t.names]
theorem OFs.pos {f : Str} {k : Kd} : ∀ {ks : List (Str × Kd)} {ds : List (Str × D)} {xs : List (Str × V)} {As : List Addr} (j : Nat), OFs cl N B Hs H ks ds xs As → ks[j]? = some (f, k) →
    ∃ pre A post d v, As = pre ++ (A ++ post) ∧ ds[j]? = some (f, d) ∧ xs[j]? = some (f, v) ∧ ORep cl N B Hs H k d v A ∧
      ∀ Hs' H', Same Hs Hs' → (∀ a ∈ pre ++ post, H' a = H a) → ∀ k' d' v' A', ORep cl N B Hs' H' k' d' v' A' → OFs cl N B Hs' H' (ks.set j (f, k')) (ds.set j (f, d')) (xs.set j (f, v')) (pre ++ (A' ++ post))
  | _, _, _, _, j, .nil, e => by simp at e
  | _, _, _, _, 0, .cons (A := A) (As := As) o t, e => by
    simp at e
    obtain ⟨rfl, rfl⟩ := e
    exact ⟨[], A, As, _, _, rfl, rfl, rfl, o, fun Hs' H' s q k' d' v' A' o' => .cons (A := A') (As := As) o' (OFs.mono s (Same.refl _) (fun _ z => z) _ _ _ As (fun a ha => q a ha) t)⟩
  | _, _, _, _, j + 1, .cons (A := A0) o t, e => by
    obtain ⟨pre, A, post, d, v, e1, e2, e3, e4, e5⟩ := OFs.pos j t (by simpa using e)
    refine ⟨A0 ++ pre, A, post, d, v, by rw [e1, List.append_assoc], by simpa using e2, by simpa using e3, e4, fun Hs' H' s q k' d' v' A' o' => ?_⟩
    rw [List.append_assoc]
    exact .cons (ORep.mono s (Same.refl _) (fun _ z => z) _ _ _ _ (fun a ha => q a (List.mem_append_left _ (List.mem_append_left _ ha))) o)
      (e5 Hs' H' s (fun a ha => q a (by
        rcases List.mem_append.mp ha with z | z
        · exact List.mem_append_left _ (List.mem_append_right _ z)
        · exact List.mem_append_right _ z)) k' d' v' A' o')
theorem OFs.snoc {f : Str} {k : Kd} {d : D} {v : V} {A : List Addr} (o : ORep cl N B Hs H k d v A) : ∀ {ks : List (Str × Kd)} {ds : List (Str × D)} {xs : List (Str × V)} {As : List Addr}, OFs cl N B Hs H ks ds xs As → OFs cl N B Hs H (ks ++ [(f, k)]) (ds ++ [(f, d)]) (xs ++ [(f, v)]) (As ++ A)
  | _, _, _, _, .nil => by
    have z := OFs.cons (f := f) o (.nil (cl := cl) (N := N) (B := B) (Hs := Hs) (H := H))
    rw [List.append_nil] at z
    exact z
  | _, _, _, _, .cons o1 t => by
    rw [List.append_assoc]
    exact .cons o1 (OFs.snoc o t)
end
theorem Grow.inside {Hs H : Hp} {Af : List Addr} {a : Addr} {o : HO} (e : Same Hs H) (ha : a ∈ Af) (hz : ∀ a ∈ Af, Hs a = none) : Grow Hs (sans H Af) Hs (upd H a o) where
  s := Same.refl _
  h := ⟨fun b u q _ => by
    have hb : b ∉ Af := fun w => by rw [sans_in w] at q; cases q
    have hne : b ≠ a := fun w => hb (by rw [w]; exact ha)
    rw [upd_ne hne]
    rw [sans_out hb] at q
    exact q⟩
  n := fun _ z => .inl z
  sub := ⟨fun b u q nt => by
    have hb : b ≠ a := fun w => by rw [w, hz a ha] at q; cases q
    rw [upd_ne hb] at nt ⊢
    exact e.k _ _ q nt⟩
  t := fun P z => z.ext fun b u q => by
    have hb : b ∉ Af := fun w => by rw [sans_in w] at q; cases q
    have hne : b ≠ a := fun w => hb (by rw [w]; exact ha)
    rw [upd_ne hne]
    rw [sans_out hb] at q
    exact q
theorem set_self {α : Type} {l : List α} {i : Nat} {x : α} (h : l[i]? = some x) : l.set i x = l := by
  obtain ⟨h, e⟩ := List.getElem?_eq_some_iff.mp h
  rw [← e, List.set_getElem_self]
section
variable {E : En} {Hs H Hs' H' : Hp} {ks : List Kd} {r : Sl} {σ : L2.St} {i j : Nat} {n : Option Addr} {kk : List (Str × Kd)} {k : Kd} {f C : Str} {d d0 : D} {ds : List (Str × D)} {v : V}
/-- slot i's value is lent, changed, comes back -/
theorem StRel.chg (S : StRel E Hs H ks r σ) (hk : ks[i]? = some k) (hd : r[i]? = some (some d)) (fk : k.fine = true) :
    ∃ v Af, σ[i]? = some (some v) ∧ ORep E.cl (fun a => sans H Af a = none) (sans H Af) Hs H k d v Af ∧ Af.Nodup ∧ (∀ a ∈ Af, Hs a = none) ∧ Same Hs H ∧
      ∀ (Hs' H' : Hp) (k2 : Kd) (d2 : D) (A2 : List Addr), k2.fine = true → Grow Hs (sans H Af) Hs' H' → ORep E.cl (fun a => sans H Af a = none) (sans H Af) Hs' H' k2 d2 v A2 → A2.Nodup → (∀ a ∈ A2, Hs' a = none ∧ sans H Af a = none) →
        StRel E Hs' H' (ks.set i k2) (r.set i (some d2)) σ := by
  obtain ⟨v, ev, S1⟩ := S.take hk hd
  obtain ⟨Af, m, nd, dz, back⟩ := StRel.lend (kf := [k]) (df := [d]) (uf := [v]) (r := r.set i none) S1 rfl rfl (by simp [fk])
  refine ⟨v, Af, ev, ?_, nd, dz, S.sub, fun Hs' H' k2 d2 A2 fk2 g o nd2 di2 => ?_⟩
  · cases m with
    | cons o t =>
      cases t
      rw [List.append_nil]
      rw [List.append_nil] at o
      exact o
  · have z := (back Hs' H' [k2] [d2] [v] A2 (by simp [fk2]) g (by
      have w := RM.cons o (.nil (cl := E.cl) (N := fun a => sans H Af a = none) (B := sans H Af) (Hs := Hs') (H := H'))
      rw [List.append_nil] at w
      exact w) nd2 di2).1
    have q := StRel.settle (ks := ks) (r := r.set i none) (σ := σ) z hk
    rw [List.set_set] at q
    rw [set_self ev] at q
    exact q
/-- what is known of an owned object -/
theorem StRel.objAt (S : StRel E Hs H ks r σ) (hk : ks[i]? = some (.obj n kk)) (hd : r[i]? = some (some (.obj C ds))) :
    ∃ a c dx xs As, σ[i]? = some (some (.ref a)) ∧ E.cl.o C = some c ∧ H a = some (.ins c dx xs) ∧ OFs E.cl E.N E.b Hs H kk ds xs As := by
  obtain ⟨v, A, e, o⟩ := S.get hk hd
  cases o with
  | obj h0 h1 h2 h3 => exact ⟨_, _, _, _, _, e, h1, h2, h3⟩
/-- a value goes into field j of slot i's object -/
theorem StRel.fldPut {k0 : Kd} (S : StRel E Hs H ks r σ) (g : Grow Hs H Hs' H') (hk : ks[i]? = some (.obj n kk)) (hd : r[i]? = some (some (.obj C ds))) (fo : (Kd.obj n kk).fine = true) (hj : kk[j]? = some (f, k0)) (fk : k.fine = true) (fo2 : (Kd.obj n (kk.set j (f, k))).fine = true) (rk : RK E.cl k H Hs' H' d v) :
    ∃ a c dx xs, σ[i]? = some (some (.ref a)) ∧ E.cl.o C = some c ∧ H' a = some (.ins c dx xs) ∧ xs.map (·.1) = kk.map (·.1) ∧ (∃ v0, xs[j]? = some (f, v0)) ∧
      StRel E Hs' (upd H' a (.ins c dx (xs.set j (f, v)))) (ks.set i (.obj n (kk.set j (f, k)))) (r.set i (some (.obj C (ds.set j (f, d))))) σ := by
  have S1 := S.push g fk rk
  obtain ⟨u, eu, S2⟩ := StRel.take (i := i + 1) S1 (by simpa using hk) (by simpa using hd)
  have eu' : σ[i]? = some (some u) := by simpa using eu
  obtain ⟨Af, m, nd, dz, back⟩ := StRel.lend (kf := [.obj n kk, k]) (df := [.obj C ds, d]) (uf := [u, v]) (ks := ks) (r := r.set i none) (σ := σ) S2 rfl rfl (by simp [fo, fk])
  cases m with
  | cons o t =>
    cases t with
    | cons o2 t2 =>
      cases t2
      cases o with
      | obj h0 h1 h2 h3 =>
        rename_i A2 a c dx xs As
        rw [List.append_nil] at nd dz back h3 o2 h0
        obtain ⟨pre, A, post, d1, v1, e1, e2, e3, e4, e5⟩ := OFs.pos j h3 hj
        subst e1
        have hin : a ∈ (a :: (pre ++ (A ++ post))) ++ A2 := by simp
        have na : ∀ b ∈ pre ++ (A ++ post), b ≠ a := fun b hb w => by
          have := (List.nodup_cons.mp (List.nodup_append.mp nd).1).1
          exact this (w ▸ hb)
        have na2 : ∀ b ∈ A2, b ≠ a := fun b hb w => (List.nodup_append.mp nd).2.2 a List.mem_cons_self b hb w.symm
        have nc : xs.map (·.1) = kk.map (·.1) := h3.names.1
        refine ⟨a, c, dx, xs, eu', h1, h2, nc, ⟨v1, e3⟩, ?_⟩
        have gr := Grow.inside (o := .ins c dx (xs.set j (f, v))) g.sub hin dz
        have o2' := ORep.mono (Same.refl Hs') (Same.refl _) (fun _ z => z) k d v A2 (fun b hb => upd_ne (H := H') (o := HO.ins c dx (xs.set j (f, v))) (na2 b hb)) o2
        have of' := e5 Hs' (upd H' a (.ins c dx (xs.set j (f, v)))) (Same.refl _) (fun b hb => upd_ne (na b (by
          rcases List.mem_append.mp hb with w | w
          · exact List.mem_append_left _ w
          · exact List.mem_append_right _ (List.mem_append_right _ w)))) k d v A2 o2'
        have ob : ORep E.cl _ _ Hs' (upd H' a (.ins c dx (xs.set j (f, v)))) (.obj n (kk.set j (f, k))) (.obj C (ds.set j (f, d))) (.ref a) (a :: (pre ++ (A2 ++ post))) := .obj h0 h1 upd_same of'
        have sub : ∀ b ∈ a :: (pre ++ (A2 ++ post)), b ∈ (a :: (pre ++ (A ++ post))) ++ A2 := fun b hb => by
          simp at hb ⊢
          rcases hb with w | w | w | w
          · exact .inl w
          · exact .inr (.inl w)
          · exact .inr (.inr (.inr (.inr w)))
          · exact .inr (.inr (.inr (.inl w)))
        have nd2 : (a :: (pre ++ (A2 ++ post))).Nodup := by
          have q := List.nodup_append.mp nd
          have q1 := List.nodup_cons.mp q.1
          refine List.nodup_cons.mpr ⟨fun w => ?_, nodup_mid q1.2 q.2.1 fun b hb w => ?_⟩
          · rcases List.mem_append.mp w with w | w
            · exact q1.1 (List.mem_append_left _ w)
            · rcases List.mem_append.mp w with w | w
              · exact na2 a w rfl
              · exact q1.1 (List.mem_append_right _ (List.mem_append_right _ w))
          · refine q.2.2 b (List.mem_cons_of_mem _ ?_) b hb rfl
            rcases List.mem_append.mp w with w | w
            · exact List.mem_append_left _ w
            · exact List.mem_append_right _ (List.mem_append_right _ w)
        have z := (back Hs' (upd H' a (.ins c dx (xs.set j (f, v)))) [.obj n (kk.set j (f, k))] [.obj C (ds.set j (f, d))] [.ref a] (a :: (pre ++ (A2 ++ post))) (by simp [fo2]) gr (by
          have w := RM.cons ob .nil
          rw [List.append_nil] at w
          exact w) nd2 fun b hb => ⟨dz b (sub b hb), sans_in (sub b hb)⟩).1
        have q := StRel.settle (ks := ks) (r := r.set i none) (σ := σ) z hk
        rw [List.set_set, set_self eu'] at q
        exact q
/-- .. into a new field -/
theorem StRel.fldNew (S : StRel E Hs H ks r σ) (g : Grow Hs H Hs' H') (hk : ks[i]? = some (.obj n kk)) (hd : r[i]? = some (some (.obj C ds))) (fo : (Kd.obj n kk).fine = true) (fk : k.fine = true) (fo2 : (Kd.obj n (kk ++ [(f, k)])).fine = true) (rk : RK E.cl k H Hs' H' d v) :
    ∃ a c dx xs, σ[i]? = some (some (.ref a)) ∧ E.cl.o C = some c ∧ H' a = some (.ins c dx xs) ∧ xs.map (·.1) = kk.map (·.1) ∧
      StRel E Hs' (upd H' a (.ins c dx (xs ++ [(f, v)]))) (ks.set i (.obj n (kk ++ [(f, k)]))) (r.set i (some (.obj C (ds ++ [(f, d)])))) σ := by
  have S1 := S.push g fk rk
  obtain ⟨u, eu, S2⟩ := StRel.take (i := i + 1) S1 (by simpa using hk) (by simpa using hd)
  have eu' : σ[i]? = some (some u) := by simpa using eu
  obtain ⟨Af, m, nd, dz, back⟩ := StRel.lend (kf := [.obj n kk, k]) (df := [.obj C ds, d]) (uf := [u, v]) (ks := ks) (r := r.set i none) (σ := σ) S2 rfl rfl (by simp [fo, fk])
  cases m with
  | cons o t =>
    cases t with
    | cons o2 t2 =>
      cases t2
      cases o with
      | obj h0 h1 h2 h3 =>
        rename_i A2 a c dx xs As
        rw [List.append_nil] at nd dz back h3 o2 h0
        have hin : a ∈ (a :: As) ++ A2 := by simp
        have na : ∀ b ∈ As, b ≠ a := fun b hb w => by
          have := (List.nodup_cons.mp (List.nodup_append.mp nd).1).1
          exact this (w ▸ hb)
        have na2 : ∀ b ∈ A2, b ≠ a := fun b hb w => (List.nodup_append.mp nd).2.2 a List.mem_cons_self b hb w.symm
        refine ⟨a, c, dx, xs, eu', h1, h2, h3.names.1, ?_⟩
        have gr := Grow.inside (o := .ins c dx (xs ++ [(f, v)])) g.sub hin dz
        have o2' := ORep.mono (Same.refl Hs') (Same.refl _) (fun _ z => z) k d v A2 (fun b hb => upd_ne (H := H') (o := HO.ins c dx (xs ++ [(f, v)])) (na2 b hb)) o2
        have h3' := OFs.mono (Same.refl Hs') (Same.refl _) (fun _ z => z) kk ds xs As (fun b hb => upd_ne (H := H') (o := HO.ins c dx (xs ++ [(f, v)])) (na b hb)) h3
        have ob : ORep E.cl _ _ Hs' (upd H' a (.ins c dx (xs ++ [(f, v)]))) (.obj n (kk ++ [(f, k)])) (.obj C (ds ++ [(f, d)])) (.ref a) (a :: (As ++ A2)) := .obj h0 h1 upd_same (OFs.snoc o2' h3')
        have z := (back Hs' (upd H' a (.ins c dx (xs ++ [(f, v)]))) [.obj n (kk ++ [(f, k)])] [.obj C (ds ++ [(f, d)])] [.ref a] (a :: (As ++ A2)) (by simp [fo2]) gr (by
          have w := RM.cons ob .nil
          rw [List.append_nil] at w
          exact w) nd fun b hb => ⟨dz b hb, sans_in hb⟩).1
        have q := StRel.settle (ks := ks) (r := r.set i none) (σ := σ) z hk
        rw [List.set_set, set_self eu'] at q
        exact q
/-- field j of slot i's object is a list that is changed where it lies -/
theorem StRel.fldMut {m : Option Addr} {es : List D} (S : StRel E Hs H ks r σ) (hk : ks[i]? = some (.obj n kk)) (hd : r[i]? = some (some (.obj C ds))) (fo : (Kd.obj n kk).fine = true) (hj : kk[j]? = some (f, .own m)) (he : ds[j]? = some (f, .lst es)) :
    ∃ a c dx xs b ys, σ[i]? = some (some (.ref a)) ∧ E.cl.o C = some c ∧ H a = some (.ins c dx xs) ∧ xs.map (·.1) = kk.map (·.1) ∧ xs[j]? = some (f, .ref b) ∧ a ≠ b ∧ H b = some (.lst ys) ∧ RepL E.cl Hs es ys ∧
      ∀ es' ys', RepL E.cl Hs es' ys' → StRel E Hs (upd H b (.lst ys')) ks (r.set i (some (.obj C (ds.set j (f, .lst es'))))) σ := by
  obtain ⟨u, Af, eu, o, nd, dz, sub, back⟩ := S.chg hk hd fo
  cases o with
  | obj h0 h1 h2 h3 =>
    rename_i a c dx xs As
    obtain ⟨pre, A, post, d1, v1, e1, e2, e3, e4, e5⟩ := OFs.pos j h3 hj
    rw [he] at e2
    cases e2
    cases e4 with
    | ownV q0 q1 => cases q0
    | ownL q0 q1 q2 =>
      rename_i b ys
      subst e1
      have nc := List.nodup_cons.mp nd
      have nb : a ≠ b := fun w => nc.1 (by rw [w]; simp)
      have hin : b ∈ a :: (pre ++ ([b] ++ post)) := by simp
      refine ⟨a, c, dx, xs, b, ys, eu, h1, h2, h3.names.1, e3, nb, q1, q2, fun es' ys' rp => ?_⟩
      have np : ∀ x ∈ pre ++ post, x ≠ b := fun x hx w => by
        have q := List.nodup_append.mp nc.2
        rcases List.mem_append.mp hx with z | z
        · exact q.2.2 x z b (by simp) w
        · have q' := List.nodup_append.mp q.2.1
          exact q'.2.2 b (by simp) x z w.symm
      have of' := e5 Hs (upd H b (.lst ys')) (Same.refl _) (fun x hx => upd_ne (np x hx)) (.own m) (.lst es') (.ref b) [b] (.ownL q0 upd_same rp)
      rw [set_self hj, set_self e3] at of'
      have z := back Hs (upd H b (.lst ys')) (.obj n kk) (.obj C (ds.set j (f, .lst es'))) (a :: (pre ++ ([b] ++ post))) fo (Grow.inside sub hin dz) (.obj h0 h1 ((upd_ne nb).trans h2) of') nd fun x hx => ⟨dz x hx, sans_in hx⟩
      rw [set_self hk] at z
      exact z
end
/-! ### rules -/
/-- a field of a class of one's own -/
def FldOk (K : PySem.W.Frag) (cl : Cl) (C f : Str) : Prop := ∀ c, cl.o C = some c → Cls K c ∧ NoAttr K c f
@[simp] def oFld (C : Str) (j : Nat) : D → R D
  | .obj C' fs => if C' = C then (match fs[j]? with
    | some (_, d) => .ok d
    | none => .stuck) else .stuck
  | _ => .stuck
@[simp] def gFld (C : Str) (i j : Nat) : Sl → R D := fun r => match r[i]? with
  | some (some d) => oFld C j d
  | _ => .stuck
theorem gFld_ok {C : Str} {i j : Nat} {r : Sl} {d : D} (h : gFld C i j r = .ok d) : ∃ fs g, r[i]? = some (some (.obj C fs)) ∧ fs[j]? = some (g, d) := by
  unfold gFld at h
  split at h
  · rename_i d0 e
    cases d0 <;> first | (cases h; done) | skip
    dsimp only [oFld] at h
    split at h
    · rename_i c
      subst c
      split at h
      · rename_i g d1 q
        cases h
        exact ⟨_, g, e, q⟩
      · cases h
    · cases h
  · cases h
theorem gFld_exc {C : Str} {i j : Nat} {r : Sl} {x : Exc} (h : gFld C i j r = .exc x) : False := by
  unfold gFld at h
  split at h
  · rename_i d0 e
    cases d0 <;> first | (cases h; done) | skip
    dsimp only [oFld] at h
    split at h
    · split at h <;> cases h
    · cases h
  · cases h
section
variable {X : Cx} {E : En} {fin : List Kd → Prop} {kr : Kd} {ks ks' : List Kd} {i j : Nat} {n : Option Addr} {kk : List (Str × Kd)} {k : Kd} {C f x : Str} {e : Expr} {g : Sl → R D} {p1 p2 p3 pos : Pos}
/-- x.f, slot i an owned object, its field j stable, or a list lent -/
theorem se_fldV (T : FldOk X.K E.cl C f) (hk : ks[i]? = some (.obj n kk) := by rfl) (hj : kk[j]? = some (f, .val) := by rfl) (hnd : (kk.map (·.1)).Nodup) (hN : X.N[i]? = some x := by rfl) (hv : Vis X.env.scope x := by first | exact Or.inl rfl | exact Or.inr (Or.inl rfl) | exact Or.inr (Or.inr rfl))
    (hq : NmOk x) (hb : attributeBase (.Name x p1) f X.env (eval (.Name x p1) X.env) = eval (.Name x p1) X.env := by rfl) : SE X E ks .val (.Attribute (.Name x p1) f pos) (gFld C i j) := by
  refine ⟨fun Hs H r σ W Q tk S P => ?_⟩
  refine we_of (pe_fld (pe_var hN hv hq.1 hq.2) hb) ?_
  cases q : gFld C i j r with
  | stuck => rw [q] at P; exact P.elim
  | exc x => exact (gFld_exc q).elim
  | ok d =>
    rw [q] at P
    obtain ⟨fs, g, e1, e2⟩ := gFld_ok q
    obtain ⟨a, c, dx, xs, As, e, h1, h2, h3⟩ := S.objAt hk e1
    obtain ⟨pre, A, post, d1, v1, _, e5, e6, e7, _⟩ := OFs.pos j h3 hj
    rw [e2] at e5
    cases e5
    cases e7 with
    | val rp => exact ⟨_, e, a, c, dx, xs, v1, rfl, h2, (T c h1).1, (T c h1).2, lookup_at (by rw [h3.names.1]; exact hnd) e6, P.finV S.sub rp⟩
theorem se_fldB {kf : Kd} (T : FldOk X.K E.cl C f) (hk : ks[i]? = some (.obj n kk) := by rfl) (hj : kk[j]? = some (f, kf) := by rfl) (hlf : kf.lends = true := by rfl) (hnd : (kk.map (·.1)).Nodup) (hN : X.N[i]? = some x := by rfl) (hv : Vis X.env.scope x := by first | exact Or.inl rfl | exact Or.inr (Or.inl rfl) | exact Or.inr (Or.inr rfl))
    (hq : NmOk x) (hb : attributeBase (.Name x p1) f X.env (eval (.Name x p1) X.env) = eval (.Name x p1) X.env := by rfl) : SE X E ks .bor (.Attribute (.Name x p1) f pos) (gFld C i j) := by
  refine ⟨fun Hs H r σ W Q tk S P => ?_⟩
  refine we_of (pe_fld (pe_var hN hv hq.1 hq.2) hb) ?_
  cases q : gFld C i j r with
  | stuck => rw [q] at P; exact P.elim
  | exc x => exact (gFld_exc q).elim
  | ok d =>
    rw [q] at P
    obtain ⟨fs, g, e1, e2⟩ := gFld_ok q
    obtain ⟨a, c, dx, xs, As, e, h1, h2, h3⟩ := S.objAt hk e1
    obtain ⟨pre, A, post, d1, v1, _, e5, e6, e7, _⟩ := OFs.pos j h3 hj
    rw [e2] at e5
    cases e5
    refine ⟨_, e, a, c, dx, xs, v1, rfl, h2, (T c h1).1, (T c h1).2, lookup_at (by rw [h3.names.1]; exact hnd) e6, P v1 Hs H (Grow.refl S.sub) (RB.rk ?_)⟩
    exact ORep.rb S.facts.2.1 _ _ _ _ hlf e7
/-- x.f = e -/
@[simp] def mFldPut (C f : Str) (i j : Nat) (g : Sl → R D) : Sl → O := fun r => onR (g r) r fun d => match r[i]? with
  | some (some (.obj C' fs)) => if C' = C then .nx (r.set i (some (.obj C (fs.set j (f, d))))) else .stuck
  | _ => .stuck
theorem ss_fldPut {k0 : Kd} {kk2 : List (Str × Kd)} (T : FldOk X.K E.cl C f) (he : SE X E ks k e g) (hnd : (kk.map (·.1)).Nodup) (hq : NmOk x) (hf : fin ks := by trivial) (hk : ks[i]? = some (.obj n kk) := by rfl) (hj : kk[j]? = some (f, k0) := by rfl) (h2 : kk.set j (f, k) = kk2 := by rfl)
    (fo : (Kd.obj n kk).fine = true := by rfl) (fk : k.fine = true := by rfl) (fo2 : (Kd.obj n kk2).fine = true := by rfl) (hl : kk.length < 1000 := by decide) (hN : X.N[i]? = some x := by rfl) (hv : Vis X.env.scope x := by first | exact Or.inl rfl | exact Or.inr (Or.inl rfl) | exact Or.inr (Or.inr rfl))
    (hs : swapsWith e (some (.Attribute (.Name x p1) f p2)) pos.line X.env = pure false := by rfl) :
    SS X E kr fin ks (.Assign [.Attribute (.Name x p1) f p2] e pos) (mFldPut C f i j g) (ks.set i (.obj n kk2)) := by
  subst h2
  refine ⟨fun Hs H r σ W Dn tk S P => ?_⟩
  refine ws_of (ps_fld (pe_var hN hv hq.1 hq.2) pe_we hs) ?_
  refine he.run _ _ _ _ _ _ tk S (Post.ofS hf S P fun d v Hs' H' e1 g1 k1 P1 => ?_)
  split at P1
  · rename_i C' fs hd
    split at P1
    · rename_i hc
      subst hc
      obtain ⟨a, c, dx, xs, e2, h1, h2, nm, ⟨v0, h3⟩, S2⟩ := S.fldPut (f := f) g1 hk hd fo hj fk fo2 k1
      refine ⟨_, e2, a, c, dx, xs, rfl, h2, (T c h1).1, (T c h1).2, ?_, ?_⟩
      · have := congrArg List.length nm
        simp at this
        omega
      · rw [putF_at (by rw [nm]; exact hnd) h3]
        exact P1 _ _ _ S2
    · exact P1.elim
  · exact P1.elim
@[simp] def mFldNew (C f : Str) (i : Nat) (g : Sl → R D) : Sl → O := fun r => onR (g r) r fun d => match r[i]? with
  | some (some (.obj C' fs)) => if C' = C then .nx (r.set i (some (.obj C (fs ++ [(f, d)])))) else .stuck
  | _ => .stuck
theorem ss_fldNew {kk2 : List (Str × Kd)} (T : FldOk X.K E.cl C f) (he : SE X E ks k e g) (hno : f ∉ kk.map (·.1)) (hq : NmOk x) (hf : fin ks := by trivial) (hk : ks[i]? = some (.obj n kk) := by rfl) (h2 : kk ++ [(f, k)] = kk2 := by rfl)
    (fo : (Kd.obj n kk).fine = true := by rfl) (fk : k.fine = true := by rfl) (fo2 : (Kd.obj n kk2).fine = true := by rfl) (hl : kk.length < 1000 := by decide) (hN : X.N[i]? = some x := by rfl) (hv : Vis X.env.scope x := by first | exact Or.inl rfl | exact Or.inr (Or.inl rfl) | exact Or.inr (Or.inr rfl))
    (hs : swapsWith e (some (.Attribute (.Name x p1) f p2)) pos.line X.env = pure false := by rfl) :
    SS X E kr fin ks (.Assign [.Attribute (.Name x p1) f p2] e pos) (mFldNew C f i g) (ks.set i (.obj n kk2)) := by
  subst h2
  refine ⟨fun Hs H r σ W Dn tk S P => ?_⟩
  refine ws_of (ps_fld (pe_var hN hv hq.1 hq.2) pe_we hs) ?_
  refine he.run _ _ _ _ _ _ tk S (Post.ofS hf S P fun d v Hs' H' e1 g1 k1 P1 => ?_)
  split at P1
  · rename_i C' fs hd
    split at P1
    · rename_i hc
      subst hc
      obtain ⟨a, c, dx, xs, e2, h1, h2, nm, S2⟩ := S.fldNew (f := f) g1 hk hd fo fk fo2 k1
      refine ⟨_, e2, a, c, dx, xs, rfl, h2, (T c h1).1, (T c h1).2, ?_, ?_⟩
      · have := congrArg List.length nm
        simp at this
        omega
      · rw [putF_out (by rw [nm]; exact hno)]
        exact P1 _ _ _ S2
    · exact P1.elim
  · exact P1.elim
/-- x.f += e, x.f -= e: whole numbers -/
@[simp] def mFldAug (C f : Str) (i j : Nat) (fd : D → D → R D) (g : Sl → R D) : Sl → O := fun r => onR (noX (gFld C i j r)) r fun d0 => onR (g r) r fun d => onR (noX (fd d0 d)) r fun z => match r[i]? with
  | some (some (.obj C' fs)) => .nx (r.set i (some (.obj C (fs.set j (f, z)))))
  | _ => .stuck
theorem ss_fldAug {op : Operator} {fi : Int → Int → Int} {fd : D → D → R D} (T : FldOk X.K E.cl C f) (hop : InOp X op (fun a b H Q => ∃ i j, a = .int i ∧ b = .int j ∧ Q (.int (fi i j)) H)) (hfd : ∀ a b c, fd a b = .ok c → ∃ i j, a = .int i ∧ b = .int j ∧ c = .int (fi i j))
    (he : SE X E ks .bor e g) (hnd : (kk.map (·.1)).Nodup) (hq : NmOk x) (hf : fin ks := by trivial) (hk : ks[i]? = some (.obj n kk) := by rfl) (hj : kk[j]? = some (f, .val) := by rfl)
    (fo : (Kd.obj n kk).fine = true := by rfl) (hl : kk.length < 1000 := by decide) (hN : X.N[i]? = some x := by rfl) (hv : Vis X.env.scope x := by first | exact Or.inl rfl | exact Or.inr (Or.inl rfl) | exact Or.inr (Or.inr rfl)) :
    SS X E kr fin ks (.AugAssign (.Attribute (.Name x p1) f p2) op e pos) (mFldAug C f i j fd g) ks := by
  refine ⟨fun Hs H r σ W Dn tk S P => ?_⟩
  refine ws_of (ps_fldaug (pe_var hN hv hq.1 hq.2) pe_we hop) ?_
  unfold mFldAug at P
  cases q : gFld C i j r with
  | stuck => rw [q] at P; exact P.elim
  | exc x => exact (gFld_exc q).elim
  | ok d0 =>
    rw [q] at P
    obtain ⟨fs, g0, e1, e2⟩ := gFld_ok q
    obtain ⟨a, c, dx, xs, As, e, h1, h2, h3⟩ := S.objAt hk e1
    obtain ⟨pre, A, post, d1, v1, _, e5, e6, e7, _⟩ := OFs.pos j h3 hj
    rw [e2] at e5
    cases e5
    refine ⟨_, e, a, c, dx, xs, v1, rfl, h2, (T c h1).1, (T c h1).2, lookup_at (by rw [h3.names.1]; exact hnd) e6, ?_⟩
    refine he.run _ _ _ _ _ _ tk S (Post.ofS hf S P fun d v Hs' H' e1' g1 k1 P1 => ?_)
    cases q2 : fd d0 d with
    | stuck => rw [q2] at P1; exact P1.elim
    | exc z => rw [q2] at P1; exact P1.elim
    | ok z =>
      rw [q2] at P1
      obtain ⟨m1, m2, rfl, rfl, rfl⟩ := hfd _ _ _ q2
      cases e7 with
      | val r0 =>
        cases r0
        cases k1.rb.intInv
        obtain ⟨a', c', dx', xs', ea', h1', h2', nm, ⟨v0, h3'⟩, S2⟩ := (S.grow g1).fldPut (f := f) (Grow.refl g1.sub) hk e1 fo hj (k := .val) rfl (by rw [set_self hj]; exact fo) (RK.val (H0 := H') (.int (fi m1 m2)))
        rw [e] at ea'
        cases ea'
        rw [h1] at h1'
        cases h1'
        refine ⟨m1, m2, rfl, rfl, dx', xs', h2', ?_, ?_⟩
        · have := congrArg List.length nm
          simp at this
          omega
        · rw [putF_at (by rw [nm]; exact hnd) h3']
          rw [set_self hj, set_self hk] at S2
          dsimp only [onR, noX] at P1
          rw [e1] at P1
          exact P1 _ _ _ S2
theorem ss_fldAdd (T : FldOk X.K E.cl C f) (he : SE X E ks .bor e g) (hnd : (kk.map (·.1)).Nodup) (hq : NmOk x) (hf : fin ks := by trivial) (hk : ks[i]? = some (.obj n kk) := by rfl) (hj : kk[j]? = some (f, .val) := by rfl)
    (fo : (Kd.obj n kk).fine = true := by rfl) (hl : kk.length < 1000 := by decide) (hN : X.N[i]? = some x := by rfl) (hv : Vis X.env.scope x := by first | exact Or.inl rfl | exact Or.inr (Or.inl rfl) | exact Or.inr (Or.inr rfl)) :
    SS X E kr fin ks (.AugAssign (.Attribute (.Name x p1) f p2) .Add e pos) (mFldAug C f i j dIAdd g) ks :=
  ss_fldAug T in_add (fun a b c h => by cases a <;> cases b <;> first | (cases h; done) | (cases h; exact ⟨_, _, rfl, rfl, rfl⟩)) he hnd hq hf hk hj fo hl hN hv
theorem ss_fldSub (T : FldOk X.K E.cl C f) (he : SE X E ks .bor e g) (hnd : (kk.map (·.1)).Nodup) (hq : NmOk x) (hf : fin ks := by trivial) (hk : ks[i]? = some (.obj n kk) := by rfl) (hj : kk[j]? = some (f, .val) := by rfl)
    (fo : (Kd.obj n kk).fine = true := by rfl) (hl : kk.length < 1000 := by decide) (hN : X.N[i]? = some x := by rfl) (hv : Vis X.env.scope x := by first | exact Or.inl rfl | exact Or.inr (Or.inl rfl) | exact Or.inr (Or.inr rfl)) :
    SS X E kr fin ks (.AugAssign (.Attribute (.Name x p1) f p2) .Sub e pos) (mFldAug C f i j dSub g) ks :=
  ss_fldAug T in_sub (fun a b c h => by cases a <;> cases b <;> first | (cases h; done) | (cases h; exact ⟨_, _, rfl, rfl, rfl⟩)) he hnd hq hf hk hj fo hl hN hv
/-- x.f.append(e) -/
@[simp] def mFldApp (C f : Str) (i j : Nat) (g : Sl → R D) : Sl → O := fun r => onR (noX (gFld C i j r)) r fun d0 => match d0 with
  | .lst es => onR (g r) r fun d => if es.length < szL then (match r[i]? with
    | some (some (.obj C' fs)) => .nx (r.set i (some (.obj C (fs.set j (f, .lst (es ++ [d]))))))
    | _ => .stuck) else .stuck
  | _ => .stuck
theorem names_at {cl : Cl} {N : Addr → Prop} {B Hs H : Hp} {kk : List (Str × Kd)} {fs : List (Str × D)} {xs : List (Str × V)} {As : List Addr} {j : Nat} {f g : Str} {k : Kd} {d : D} (h : OFs cl N B Hs H kk fs xs As) (hj : kk[j]? = some (f, k)) (e : fs[j]? = some (g, d)) : g = f := by
  have z := h.names.2
  have a : (fs.map (·.1))[j]? = some g := by rw [List.getElem?_map, e]; rfl
  rw [z, List.getElem?_map, hj] at a
  exact (Option.some.inj a).symm
theorem ss_fldApp {m : Option Addr} (T : FldOk X.K E.cl C f) (he : SE X E ks .val e g) (hnd : (kk.map (·.1)).Nodup) (hq : NmOk x) (hf : fin ks := by trivial) (hk : ks[i]? = some (.obj n kk) := by rfl) (hj : kk[j]? = some (f, .own m) := by rfl)
    (fo : (Kd.obj n kk).fine = true := by rfl) (hN : X.N[i]? = some x := by rfl) (hv : Vis X.env.scope x := by first | exact Or.inl rfl | exact Or.inr (Or.inl rfl) | exact Or.inr (Or.inr rfl))
    {p0 : Pos} (hs : swapsWith (.Call (.Attribute (.Attribute (.Name x p1) f p0) "append" p2) [e] [] p3) none pos.line X.env = pure false := by rfl)
    (hb : attributeBase (.Name x p1) f X.env (eval (.Name x p1) X.env) = eval (.Name x p1) X.env := by rfl)
    (hbase : attributeBase (.Attribute (.Name x p1) f p0) "append" X.env (eval (.Attribute (.Name x p1) f p0) X.env) = eval (.Attribute (.Name x p1) f p0) X.env := by rfl)
    (hfew : ((backTo p3 (starEach [e] X.env)).all (fun x => !x.1) && (backToKw p3 (keywordEach [] X.env)).all (fun x => x.1.isSome)
      && decide ([e].length + ([] : List Keyword).length + (if ([] : List Keyword).isEmpty then 0 else 1) < 30)) = true := by rfl)
    (hline : (p2.endLine == p3.line) = true := by rfl) (hst : starEach [e] X.env = (false, eval e X.env) :: starEach [] X.env := by rfl) (hplain : (backTo p3 (starEach [] X.env)).any (·.1) = false := by rfl) :
    SS X E kr fin ks (.Expr (.Call (.Attribute (.Attribute (.Name x p1) f p0) "append" p2) [e] [] p3) pos) (mFldApp C f i j g) ks := by
  refine ⟨fun Hs H r σ W Dn tk S P => ?_⟩
  refine ws_of (ps_expr (pe_bm PySem.F.plainAttrs_list PySem.F.slot_list_append PySem.F.type_list_append mt_append (pe_fld (pe_var hN hv hq.1 hq.2) hb) (pa_cons pe_we pa_nil hst) hbase hfew hline hst hplain) hs) ?_
  unfold mFldApp at P
  cases q : gFld C i j r with
  | stuck => rw [q] at P; exact P.elim
  | exc x => exact (gFld_exc q).elim
  | ok d0 =>
    rw [q] at P
    dsimp only [onR, noX] at P
    cases d0 <;> first | exact P.elim | skip
    rename_i es
    obtain ⟨fs, g0, e1, e2⟩ := gFld_ok q
    have hg : g0 = f := by
      obtain ⟨a, c, dx, xs, As, _, _, _, h3⟩ := S.objAt hk e1
      exact names_at h3 hj e2
    subst hg
    obtain ⟨a, c, dx, xs, b, ys, e, h1, h2, nm, h3, nb, h4, r1, _⟩ := S.fldMut hk e1 fo hj e2
    refine ⟨_, e, a, c, dx, xs, .ref b, rfl, h2, (T c h1).1, (T c h1).2, lookup_at (by rw [nm]; exact hnd) h3, tyV_lst h4, ?_⟩
    refine he.run _ _ _ _ _ _ tk S (Post.ofS hf S P fun d v Hs' H' _ g1 k1 P1 => ?_)
    obtain ⟨a', c', dx', xs', b', ys', e', h1', h2', nm', h3', nb', h4', r1', up⟩ := (S.grow g1).fldMut hk e1 fo hj e2
    rw [e] at e'
    cases e'
    have eb : b' = b := by
      have z := g1.h.at _ _ h2
      rw [h2'] at z
      cases z
      rw [h3] at h3'
      cases h3'
      rfl
    subst eb
    split at P1
    · rename_i hz
      rw [e1] at P1
      exact ⟨b', ys', v, rfl, rfl, h4', by rw [szL_eq, r1'.length]; exact hz, P1 _ _ _ (up _ _ (r1'.app (.cons k1.rep .nil)))⟩
    · exact P1.elim
/-- x.f += e, a list -/
@[simp] def mFldExt (C f : Str) (i j : Nat) (g : Sl → R D) : Sl → O := fun r => onR (noX (gFld C i j r)) r fun d0 => match d0 with
  | .lst es => onR (g r) r fun d => match d with
    | .lst zs => if es.length + zs.length ≤ szL then (match r[i]? with
      | some (some (.obj C' fs)) => .nx (r.set i (some (.obj C (fs.set j (f, .lst (es ++ zs))))))
      | _ => .stuck) else .stuck
    | _ => .stuck
  | _ => .stuck
theorem ss_fldExt {m : Option Addr} (T : FldOk X.K E.cl C f) (he : SE X E ks .val e g) (hnd : (kk.map (·.1)).Nodup) (hq : NmOk x) (hf : fin ks := by trivial) (hk : ks[i]? = some (.obj n kk) := by rfl) (hj : kk[j]? = some (f, .own m) := by rfl)
    (fo : (Kd.obj n kk).fine = true := by rfl) (hl : kk.length < 1000 := by decide) (hN : X.N[i]? = some x := by rfl) (hv : Vis X.env.scope x := by first | exact Or.inl rfl | exact Or.inr (Or.inl rfl) | exact Or.inr (Or.inr rfl)) :
    SS X E kr fin ks (.AugAssign (.Attribute (.Name x p1) f p2) .Add e pos) (mFldExt C f i j g) ks := by
  refine ⟨fun Hs H r σ W Dn tk S P => ?_⟩
  have hop : InOp X .Add rExt2 := fun pins s σ H x y u v Q I rx ry h => iop_ext pins s σ H x y u v Q I rx ry h
  refine ws_of (ps_fldaug (pe_var hN hv hq.1 hq.2) pe_we hop) ?_
  unfold mFldExt at P
  cases q : gFld C i j r with
  | stuck => rw [q] at P; exact P.elim
  | exc x => exact (gFld_exc q).elim
  | ok d0 =>
    rw [q] at P
    dsimp only [onR, noX] at P
    cases d0 <;> first | exact P.elim | skip
    rename_i es
    obtain ⟨fs, g0, e1, e2⟩ := gFld_ok q
    have hg : g0 = f := by
      obtain ⟨a, c, dx, xs, As, _, _, _, h3⟩ := S.objAt hk e1
      exact names_at h3 hj e2
    subst hg
    obtain ⟨a, c, dx, xs, b, ys, e, h1, h2, nm, h3, nb, h4, r1, _⟩ := S.fldMut hk e1 fo hj e2
    refine ⟨_, e, a, c, dx, xs, .ref b, rfl, h2, (T c h1).1, (T c h1).2, lookup_at (by rw [nm]; exact hnd) h3, ?_⟩
    refine he.run _ _ _ _ _ _ tk S (Post.ofS hf S P fun d v Hs' H' _ g1 k1 P1 => ?_)
    obtain ⟨a', c', dx', xs', b', ys', e', h1', h2', nm', h3', nb', h4', r1', up⟩ := (S.grow g1).fldMut hk e1 fo hj e2
    rw [e] at e'
    cases e'
    have z := g1.h.at _ _ h2
    rw [h2'] at z
    cases z
    rw [h3] at h3'
    cases h3'
    rw [h1] at h1'
    cases h1'
    cases d <;> first | exact P1.elim | skip
    rename_i zs
    dsimp only at P1
    split at P1
    · rename_i hz
      rw [e1] at P1
      have kr1 := k1.rep
      cases kr1 with
      | lst h5 r5 =>
        rename_i ws
        refine ⟨b, _, ys', _, rfl, rfl, h4', g1.sub.at _ _ h5, by rw [szL_eq, r1'.length, r5.length]; exact hz, dx, xs, ?_, ?_, ?_⟩
        · rw [upd_ne nb]; exact h2'
        · have := congrArg List.length nm
          simp at this
          omega
        · rw [putF_at (by rw [nm]; exact hnd) h3, set_self h3]
          have w := up _ _ (r1'.app r5)
          have same : upd (upd H' b (.lst (ys' ++ ws))) a (.ins c dx xs) = upd H' b (.lst (ys' ++ ws)) := by
            funext x
            by_cases hx : x = a
            · subst hx
              rw [upd_same, upd_ne nb, h2']
            · rw [upd_ne hx]
          rw [same]
          exact P1 _ _ _ w
    · exact P1.elim
end
end VL
end

noncomputable section
namespace VL
open PySem PySem.Spec PyProof.Rows L2

theorem tab_of_sans {H : Hp} {Af : List Addr} {P : Addr} (z : LamX.TabS (sans H Af) P lamQ) : LamX.TabS H P lamQ := z.ext fun b o q => by
  by_cases w : b ∈ Af
  · rw [sans_in w] at q; cases q
  · rw [sans_out w] at q; exact q
def Kd.mutb : Kd → Bool
  | .own _ => true
  | .obj _ _ => true
  | .lls _ _ => true
  | _ => false
def pins (ks : List Kd) (as : List Addr) : List Kd := List.zipWith (fun k a => k.re (some a)) ks as
theorem Kd.fine_re {k : Kd} {n : Option Addr} (h : k.fine = true) : (k.re n).fine = true := by
  cases k <;> first | exact h | rfl
theorem pins_fine : ∀ {ks : List Kd} {as : List Addr}, ks.all Kd.fine = true → (pins ks as).all Kd.fine = true
  | [], _, _ => by cases ‹List Addr› <;> rfl
  | _ :: _, [], _ => rfl
  | k :: ks, a :: as, h => by
    rw [List.all_cons, Bool.and_eq_true] at h
    show ((k.re (some a)) :: pins ks as).all Kd.fine = true
    rw [List.all_cons, Bool.and_eq_true]
    exact ⟨Kd.fine_re h.1, pins_fine h.2⟩
theorem pins_len {ks : List Kd} {as : List Addr} (h : as.length = ks.length) : (pins ks as).length = ks.length := by
  unfold pins
  rw [List.length_zipWith, h, Nat.min_self]
section
variable {cl : Cl} {N : Addr → Prop} {B Hs H : Hp}
theorem ORep.at1 {k : Kd} {a : Addr} {d : D} {v : V} {A : List Addr} (m : k.mutb = true) (h : ORep cl N B Hs H (k.re (some a)) d v A) : v = .ref a := by
  cases k <;> first | (cases m; done) | skip
  · cases h with
    | ownL h0 _ _ => rw [h0.2 _ rfl]
    | ownK h0 _ _ => rw [h0.2 _ rfl]
  · cases h with
    | obj h0 _ _ _ => rw [h0.2 _ rfl]
  · cases h with
    | lls h0 _ _ => rw [h0.2 _ rfl]
    | llT h0 _ _ => rw [h0.2 _ rfl]
theorem RM.ats : ∀ {ks : List Kd} {as : List Addr} {ds : List D} {vs : List V} {A : List Addr}, ks.all Kd.mutb = true → as.length = ks.length → RM cl N B Hs H (pins ks as) ds vs A → vs = as.map .ref
  | [], [], _, _, _, _, _, .nil => rfl
  | [], _ :: _, _, _, _, _, l, _ => by cases l
  | _ :: _, [], _, _, _, _, l, _ => by cases l
  | k :: ks, a :: as, _, _, _, m, l, .cons o t => by
    rw [List.all_cons, Bool.and_eq_true] at m
    rw [RM.ats m.2 (by simpa using l) t, ORep.at1 m.1 o]
    rfl
end
/-- how a call ends: its result, what was lent -/
def PostM (cl : Cl) (k2 : List Kd) (kr : Kd) (as : List Addr) (Hs H : Hp) (Af : List Addr) (Q : VK) (E : XK) : O → Prop
  | .stuck => False
  | .nx _ => False
  | .rt d es => ∃ dm, es = dm.map some ∧ ∀ v Hs' H' A0 A2, Grow Hs (sans H Af) Hs' H' → ORep cl (fun b => sans H Af b = none) (sans H Af) Hs' H' kr d v A0 → RM cl (fun b => sans H Af b = none) (sans H Af) Hs' H' (pins k2 as) dm (as.map .ref) A2 →
      (A0 ++ A2).Nodup → (∀ b ∈ A0 ++ A2, Hs' b = none ∧ sans H Af b = none) → Q v H'
  | .exc x es => ∃ dm, es = dm.map some ∧ ∀ c dd Hs' H' A2, Grow Hs (sans H Af) Hs' H' → RM cl (fun b => sans H Af b = none) (sans H Af) Hs' H' (pins k2 as) dm (as.map .ref) A2 →
      A2.Nodup → (∀ b ∈ A2, Hs' b = none ∧ sans H Af b = none) → XRep cl Hs' H' x c dd → E c dd H'
/-- a promise with things that are lent (ahead) -/
def spM (cl : Cl) (k1 k2 : List Kd) (bs : List Bool) (kr : Kd) (f : List D → O) : Sp := fun vs H Q E => ∃ (as : List Addr) (ws : List V) (dm ds : List D) (Hs : Hp) (Af : List Addr), vs = as.map .ref ++ ws ∧ as.length = k1.length ∧ Same Hs H ∧
  RM cl (fun b => sans H Af b = none) (sans H Af) Hs H (pins k1 as) dm (as.map .ref) Af ∧ Af.Nodup ∧ (∀ b ∈ Af, Hs b = none) ∧ RAs cl Hs (sans H Af) bs ds ws ∧ PostM cl k2 kr as Hs H Af Q E (f (dm ++ ds))
/-- the first n slots hold values -/
def allS : Sl → Option (List D)
  | [] => some []
  | some d :: r => (allS r).map (d :: ·)
  | none :: _ => none
theorem allS_eq : ∀ {r : Sl} {ds : List D}, allS r = some ds → r = ds.map some
  | [], _, h => by cases h; rfl
  | some d :: r, ds, h => by
    unfold allS at h
    cases q : allS r with
    | none => rw [q] at h; cases h
    | some e =>
      rw [q] at h
      cases h
      rw [allS_eq q]
      rfl
  | none :: _, _, h => by cases h
def outM (n : Nat) : O → O
  | .nx r => if (allS (r.take n)).isSome then .rt .non (r.take n) else .stuck
  | .rt d r => if (allS (r.take n)).isSome then .rt d (r.take n) else .stuck
  | .exc x r => if (allS (r.take n)).isSome then .exc x (r.take n) else .stuck
  | .stuck => .stuck
/-- the plain function of a def with n lent things and k further names -/
@[simp] def runM (m : Sl → O) (n k : Nat) : List D → O := fun ds => outM n (m (ds.map some ++ List.replicate k none))
theorem Slots.cut {E : En} {Hs H : Hp} : ∀ {kf kz : List Kd} {df : List D} {rz : Sl} {t : L2.St} {As : List Addr}, df.length = kf.length → Slots E Hs H (kf ++ kz) (df.map some ++ rz) t As → ∃ uf tz Af Ar, t = uf.map some ++ tz ∧ As = Af ++ Ar ∧ RM E.cl E.N E.b Hs H kf df uf Af
  | [], _, [], _, t, As, _, h => ⟨[], t, [], As, rfl, rfl, .nil⟩
  | k :: kf, _, d :: df, _, _, _, l, h => by
    cases h with
    | cons o t =>
      obtain ⟨uf, tz, Af, Ar, e1, e2, m⟩ := Slots.cut (by simpa using l) t
      exact ⟨_ :: uf, tz, _ ++ Af, Ar, by rw [e1]; rfl, by rw [e2, List.append_assoc], .cons o m⟩
  | [], _, _ :: _, _, _, _, l, _ => by cases l
  | _ :: _, _, [], _, _, _, l, _ => by cases l
section
variable {P : Program} {w : World} {K : PySem.W.Frag} {mg : Str → Option Value} {base : Heap} {cl : Cl} {x qual : Str} {st : Stmt} {fa : Addr} {fd : FuncData} {N ps : List Str} {k : Nat} {bs : List Bool} {kr : Kd} {k1 k2 ls : List Kd} {m : Sl → O}
/-- a def to which things are lent -/
theorem def_okM {ks' : List Addr → List Kd} (F : Fun K x qual st fa fd) (S : FnScope N ps (defScope st)) (hb : k1.length + bs.length = ps.length) (hN : N.length = ps.length + ls.length) (fk : kr.fine = true) (l2 : k2.length = k1.length) (f2 : k2.all Kd.fine = true) (m2 : k2.all Kd.mutb = true)
    (hn : kr = .val ∨ kr = .own none) (hk' : ∀ as, as.length = k1.length → (ks' as).take k1.length = pins k2 as)
    (body : ∀ (as : List Addr), as.length = k1.length → ∀ (cdv : Value) (A : Around) (outer : List Env) (s : Shared) (H : Hp) (E : XK) (h0 s0 b0 : Hp), Room k (A.deeper (envOfC qual (defScope st) s.heap.objs.size fa cdv)) →
      SB (cxOf (L2.CX P w) P w K mg base N qual (defScope st) fa cdv A outer s H E) ⟨cl, h0, s0, b0⟩ kr (fun ks2 => ks2.take k1.length = pins k2 as) (pins k1 as ++ (bs.map kdOf ++ ls)) (defBody st) m (ks' as)) : FnOk P w K mg base (L2.CX P w) (k + 1) fa fd ps (spM cl k1 k2 bs kr (runM m k1.length ls.length)) := by
  refine F.okX S (fun vs H Q E h => ?_) (fun cdv A outer s H vs Q E hr h => ?_)
  · obtain ⟨as, ws, dm, ds, Hs, Af, rfl, l, _, _, _, _, a, _⟩ := h
    rw [List.length_append, List.length_map, a.len.1, l, hb]
  · obtain ⟨as, ws, dm, ds, Hs, Af, rfl, l, e, rm, nd, dz, a, p⟩ := h
    refine ⟨_, pss_ws, ?_⟩
    have tk : Takes (cxOf (L2.CX P w) P w K mg base N qual (defScope st) fa cdv A outer s H E) (fun c dd _ H' => E c dd H') := takes_of rfl rfl rfl rfl
    have hst : L2.start N (as.map .ref ++ ws) = (as.map V.ref).map some ++ (ws.map some ++ List.replicate ls.length none) := by
      unfold L2.start
      rw [List.map_append, List.append_assoc, List.length_append, List.length_map, a.len.1, l, hN, ← hb, Nat.add_sub_cancel_left]
    have E0s : Same Hs (sans H Af) := sans_sub e dz
    have S0 : StRel ⟨cl, sans H Af, Hs, sans H Af⟩ Hs H (pins k1 as ++ (bs.map kdOf ++ ls)) ((dm ++ ds).map some ++ List.replicate ls.length none) (L2.start N (as.map .ref ++ ws)) := by
      rw [hst, List.map_append, List.append_assoc]
      have s1 : Slots ⟨cl, sans H Af, Hs, sans H Af⟩ Hs (sans H Af) (bs.map kdOf ++ ls) (ds.map some ++ List.replicate ls.length none) (ws.map some ++ List.replicate ls.length none) [] := slots_start rfl a ls
      have s2 := s1.mono (Same.refl Hs) (H' := H) (by intro a ha; cases ha)
      have j := Slots.join (E := ⟨cl, sans H Af, Hs, sans H Af⟩) rm s2
      rw [List.append_nil] at j
      exact ⟨Af, j, nd, fun a ha => ⟨dz a ha, sans_in ha⟩, Same.refl _, e, sans_same, fun a z => .inl z, fun a z => sans_of z, fun P z => tab_of_sans z⟩
    refine (body as l cdv A outer s H E (sans H Af) Hs (sans H Af) hr).run _ _ _ _ _ _ tk S0 ?_
    unfold runM at p
    have lp : (pins k2 as).length = k1.length := by rw [pins_len (by rw [l, l2]), l2]
    have cutR : ∀ (ks2 : List Kd) (r : Sl), ks2.take k1.length = pins k2 as → ∀ dm', allS (r.take k1.length) = some dm' → r.length = ks2.length → ∃ kz rz, ks2 = pins k2 as ++ kz ∧ r = dm'.map some ++ rz ∧ dm'.length = (pins k2 as).length := by
      intro ks2 r q dm' q2 ql
      have e1 := allS_eq q2
      refine ⟨ks2.drop k1.length, r.drop k1.length, by rw [← q, List.take_append_drop], by rw [← e1, List.take_append_drop], ?_⟩
      have := congrArg List.length e1
      rw [List.length_take, List.length_map] at this
      have h2 := congrArg List.length q
      rw [List.length_take] at h2
      omega
    cases q : m ((dm ++ ds).map some ++ List.replicate ls.length none) with
    | stuck => rw [q] at p; exact p.elim
    | nx r =>
      rw [q] at p
      dsimp only [outM] at p
      split at p
      · rename_i hs
        obtain ⟨dm', hd⟩ := Option.isSome_iff_exists.mp hs
        intro Hs' H' σ' S'
        obtain ⟨dq, eq, p⟩ := p
        have eq2 := allS_eq hd
        rw [eq] at eq2
        have edq : dq = dm' := List.map_inj_right (fun _ _ z => Option.some.inj z) |>.mp eq2
        subst edq
        have f := S'.facts
        obtain ⟨As, s'⟩ := S'
        obtain ⟨kz, rz, rfl', rfl2, ld⟩ := cutR _ r (hk' as l) dq hd s'.sl.len.1
        have sl := s'.sl
        rw [rfl', rfl2] at sl
        obtain ⟨uf, tz, Af', Ar, e1, e2, rm'⟩ := Slots.cut ld sl
        have eu := RM.ats m2 (by rw [l, l2]) rm'
        subst eu
        have ndd := s'.nd
        rw [e2] at ndd
        have dis' : ∀ a ∈ Af', Hs' a = none ∧ sans H Af a = none := fun a ha => s'.dis a (by rw [e2]; exact List.mem_append_left _ ha)
        have g : Grow Hs (sans H Af) Hs' H' := ⟨f.1, f.2.1, f.2.2.1, s'.sub, f.2.2.2⟩
        refine p .non Hs' H' [] Af' g ?_ rm' (by simpa using (List.nodup_append.mp ndd).1) (by simpa using dis')
        rcases hn with rfl | rfl
        · exact .val .non
        · exact .ownV rfl .non
      · exact p.elim
    | rt d r =>
      rw [q] at p
      dsimp only [outM] at p
      split at p
      · rename_i hs
        obtain ⟨dm', hd⟩ := Option.isSome_iff_exists.mp hs
        intro Hs' H' σ' v ks2 fz S'
        obtain ⟨dq, eq, p⟩ := p
        have eq2 := allS_eq hd
        rw [eq] at eq2
        have edq : dq = dm' := List.map_inj_right (fun _ _ z => Option.some.inj z) |>.mp eq2
        subst edq
        have f := S'.facts
        obtain ⟨As, s'⟩ := S'
        have sl0 := s'.sl
        have ndd := s'.nd
        have dis := s'.dis
        have sb := s'.sub
        cases sl0 with
        | cons o sl =>
          rename_i A0 As'
          obtain ⟨kz, rz, rfl', rfl2, ld⟩ := cutR _ r fz dq hd sl.len.1
          rw [rfl', rfl2] at sl
          obtain ⟨uf, tz, Af', Ar, e1, e2, rm'⟩ := Slots.cut ld sl
          have eu := RM.ats m2 (by rw [l, l2]) rm'
          subst eu
          rw [e2] at ndd
          have g : Grow Hs (sans H Af) Hs' H' := ⟨f.1, f.2.1, f.2.2.1, sb, f.2.2.2⟩
          refine p v Hs' H' A0 Af' g (ORep.anyB kr _ _ _ fk o) rm' ?_ fun b hb => ?_
          · rw [← List.append_assoc] at ndd
            exact (List.nodup_append.mp ndd).1
          · refine dis b ?_
            rw [e2]
            rcases List.mem_append.mp hb with z | z
            · exact List.mem_append_left _ z
            · exact List.mem_append_right _ (List.mem_append_left _ z)
      · exact p.elim
    | exc z r =>
      rw [q] at p
      dsimp only [outM] at p
      split at p
      · rename_i hs
        obtain ⟨dm', hd⟩ := Option.isSome_iff_exists.mp hs
        intro Hs' H' σ' c dd ks2 fz S' xr
        obtain ⟨dq, eq, p⟩ := p
        have eq2 := allS_eq hd
        rw [eq] at eq2
        have edq : dq = dm' := List.map_inj_right (fun _ _ z => Option.some.inj z) |>.mp eq2
        subst edq
        have f := S'.facts
        obtain ⟨As, s'⟩ := S'
        have sl := s'.sl
        obtain ⟨kz, rz, rfl', rfl2, ld⟩ := cutR _ r fz dq hd sl.len.1
        rw [rfl', rfl2] at sl
        obtain ⟨uf, tz, Af', Ar, e1, e2, rm'⟩ := Slots.cut ld sl
        have eu := RM.ats m2 (by rw [l, l2]) rm'
        subst eu
        have ndd := s'.nd
        rw [e2] at ndd
        have g : Grow Hs (sans H Af) Hs' H' := ⟨f.1, f.2.1, f.2.2.1, s'.sub, f.2.2.2⟩
        exact p c dd Hs' H' Af' g rm' (List.nodup_append.mp ndd).1 (fun b hb => s'.dis b (by rw [e2]; exact List.mem_append_left _ hb)) xr
      · exact p.elim
/-- __init__: nothing is raised, nothing returned; self has no field yet -/
@[simp] def runIni (m : Sl → O) (k : Nat) : List D → O := fun ds => match m (ds.map some ++ List.replicate k none) with
  | .nx r => (match r with
    | some d :: _ => .rt .non [some d]
    | _ => .stuck)
  | _ => .stuck
theorem def_okI {ks' : Addr → List Kd} {kk : List (Str × Kd)} (F : Fun K x qual st fa fd) (S : FnScope N ps (defScope st)) (hb : 1 + bs.length = ps.length) (hN : N.length = ps.length + ls.length) (hk' : ∀ a, (ks' a).head? = some (.obj (some a) kk))
    (body : ∀ (a : Addr) (cdv : Value) (A : Around) (outer : List Env) (s : Shared) (H : Hp) (E : XK) (h0 s0 b0 : Hp), Room k (A.deeper (envOfC qual (defScope st) s.heap.objs.size fa cdv)) →
      SB (cxOf CX0 P w K mg base N qual (defScope st) fa cdv A outer s H E).nox ⟨cl, h0, s0, b0⟩ .val (fun _ => True) (.obj (some a) [] :: (bs.map kdOf ++ ls)) (defBody st) m (ks' a)) : FnOk P w K mg base CX0 (k + 1) fa fd ps (spM cl [.obj none []] [.obj none kk] bs .val (runIni m ls.length)) := by
  refine F.ok S (fun vs H Q E h => ?_) (fun cdv A outer s H vs Q E hr h => ?_)
  · obtain ⟨as, ws, dm, ds, Hs, Af, rfl, l, _, _, _, _, a, _⟩ := h
    rw [List.length_append, List.length_map, a.len.1, l, ← hb]
    rfl
  · obtain ⟨as, ws, dm, ds, Hs, Af, rfl, l, e, rm, nd, dz, a, p⟩ := h
    obtain ⟨a0, rfl⟩ : ∃ a0, as = [a0] := by
      match as, l with
      | [a0], _ => exact ⟨a0, rfl⟩
    obtain ⟨d0, rfl⟩ : ∃ d0, dm = [d0] := by
      have := rm.len.1
      match dm, this with
      | [d0], _ => exact ⟨d0, rfl⟩
    refine ⟨_, pss_ws, ?_⟩
    have hst : L2.start N ([a0].map .ref ++ ws) = ([a0].map V.ref).map some ++ (ws.map some ++ List.replicate ls.length none) := by
      unfold L2.start
      rw [List.map_append, List.append_assoc, List.length_append, List.length_map, a.len.1, hN, ← hb]
      simp
    have S0 : StRel ⟨cl, sans H Af, Hs, sans H Af⟩ Hs H (.obj (some a0) [] :: (bs.map kdOf ++ ls)) (([d0] ++ ds).map some ++ List.replicate ls.length none) (L2.start N ([a0].map .ref ++ ws)) := by
      rw [hst, List.map_append, List.append_assoc]
      have s1 : Slots ⟨cl, sans H Af, Hs, sans H Af⟩ Hs (sans H Af) (bs.map kdOf ++ ls) (ds.map some ++ List.replicate ls.length none) (ws.map some ++ List.replicate ls.length none) [] := slots_start rfl a ls
      have s2 := s1.mono (Same.refl Hs) (H' := H) (by intro a ha; cases ha)
      have j := Slots.join (E := ⟨cl, sans H Af, Hs, sans H Af⟩) rm s2
      rw [List.append_nil] at j
      exact ⟨Af, j, nd, fun a ha => ⟨dz a ha, sans_in ha⟩, Same.refl _, e, sans_same, fun a z => .inl z, fun a z => sans_of z, fun P z => tab_of_sans z⟩
    refine (body a0 cdv A outer s H E (sans H Af) Hs (sans H Af) hr).run _ _ _ _ (fun _ _ _ _ => False) _ takes0 S0 ?_
    unfold runIni at p
    cases q : m (([d0] ++ ds).map some ++ List.replicate ls.length none) with
    | stuck => rw [q] at p; exact p.elim
    | rt d r => rw [q] at p; exact p.elim
    | exc x r => rw [q] at p; exact p.elim
    | nx r =>
      rw [q] at p
      dsimp only at p
      split at p
      · rename_i d r'
        intro Hs' H' σ' S'
        obtain ⟨dq, eq, p⟩ := p
        have edq : dq = [d] := List.map_inj_right (fun _ _ z => Option.some.inj z) |>.mp (eq.symm.trans (show [some d] = [d].map some from rfl))
        subst edq
        have f := S'.facts
        obtain ⟨As, s'⟩ := S'
        have sl := s'.sl
        have hh := hk' a0
        obtain ⟨kz, ek⟩ : ∃ kz, ks' a0 = .obj (some a0) kk :: kz := by
          cases q2 : ks' a0 with
          | nil => rw [q2] at hh; cases hh
          | cons y ys =>
            rw [q2] at hh
            have hh' : some y = some _ := hh
            cases hh'
            exact ⟨ys, rfl⟩
        rw [ek] at sl
        cases sl with
        | cons o t =>
          rename_i v0 Af' t0 Ar
          have ev : v0 = .ref a0 := o.atO
          subst ev
          have ndd := s'.nd
          have dis := s'.dis
          have g : Grow Hs (sans H Af) Hs' H' := ⟨f.1, f.2.1, f.2.2.1, s'.sub, f.2.2.2⟩
          refine p .non Hs' H' [] (Af' ++ []) g (.val .non) (.cons o .nil) (by simpa using (List.nodup_append.mp ndd).1) fun b hb => dis b (List.mem_append_left _ (by simpa using hb))
      · exact p.elim
end
end VL
end

noncomputable section
namespace VL
open PySem PySem.Spec PyProof.Rows L2

section
variable {E : En} {Hs H Hs' H' : Hp} {ks : List Kd} {r : Sl} {σ : L2.St} {i : Nat} {k ka kb : Kd} {d da db : D} {va vb : V}
theorem StRel.swap (S : StRel E Hs H (ka :: kb :: ks) (some da :: some db :: r) (some va :: some vb :: σ)) : StRel E Hs H (kb :: ka :: ks) (some db :: some da :: r) (some vb :: some va :: σ) := by
  obtain ⟨As, S⟩ := S
  have sl := S.sl
  cases sl with
  | cons o t =>
    cases t with
    | cons o2 t2 =>
      rename_i A A2 Ar
      have p : (A2 ++ (A ++ Ar)).Perm (A ++ (A2 ++ Ar)) := by
        rw [← List.append_assoc, ← List.append_assoc]
        exact List.Perm.append_right _ List.perm_append_comm
      exact ⟨_, .cons o2 (.cons o t2), p.nodup_iff.mpr S.nd, fun a ha => S.dis a (p.mem_iff.mp ha), S.es, S.sub, S.eb, S.new, S.dom, S.tb⟩
/-- slot i's value is lent; it comes back, with a result or without -/
theorem StRel.chgV (S : StRel E Hs H ks r σ) (hk : ks[i]? = some k) (hd : r[i]? = some (some d)) (fk : k.fine = true) :
    ∃ v Af, σ[i]? = some (some v) ∧ ORep E.cl (fun a => sans H Af a = none) (sans H Af) Hs H k d v Af ∧ Af.Nodup ∧ (∀ a ∈ Af, Hs a = none) ∧
      ∀ (Hs' H' : Hp) (k2 : Kd) (d2 : D) (A2 : List Addr), k2.fine = true → Grow Hs (sans H Af) Hs' H' → ORep E.cl (fun a => sans H Af a = none) (sans H Af) Hs' H' k2 d2 v A2 → A2.Nodup → (∀ a ∈ A2, Hs' a = none ∧ sans H Af a = none) →
        StRel E Hs' H' (ks.set i k2) (r.set i (some d2)) σ ∧
        ∀ (k0 : Kd) (d0 : D) (v0 : V) (A0 : List Addr), k0.fine = true → ORep E.cl (fun a => sans H Af a = none) (sans H Af) Hs' H' k0 d0 v0 A0 → (A0 ++ A2).Nodup → (∀ a ∈ A0, Hs' a = none ∧ sans H Af a = none) →
          StRel E Hs' H' (k0 :: ks.set i k2) (some d0 :: r.set i (some d2)) (some v0 :: σ) := by
  obtain ⟨v, ev, S1⟩ := S.take hk hd
  obtain ⟨Af, m, nd, dz, back⟩ := StRel.lend (kf := [k]) (df := [d]) (uf := [v]) (r := r.set i none) S1 rfl rfl (by simp [fk])
  refine ⟨v, Af, ev, ?_, nd, dz, fun Hs' H' k2 d2 A2 fk2 g o nd2 di2 => ?_⟩
  · cases m with
    | cons o t =>
      cases t
      rw [List.append_nil]
      rw [List.append_nil] at o
      exact o
  · have w := back Hs' H' [k2] [d2] [v] A2 (by simp [fk2]) g (by
      have w := RM.cons o (.nil (cl := E.cl) (N := fun a => sans H Af a = none) (B := sans H Af) (Hs := Hs') (H := H'))
      rw [List.append_nil] at w
      exact w) nd2 di2
    refine ⟨?_, fun k0 d0 v0 A0 f0 o0 nd0 di0 => ?_⟩
    · have q := StRel.settle (ks := ks) (r := r.set i none) (σ := σ) w.1 hk
      rw [List.set_set] at q
      rw [set_self ev] at q
      exact q
    · have z := StRel.swap (w.2 k0 d0 v0 A0 f0 o0 nd0 di0)
      have q := StRel.settle (ks := k0 :: ks) (r := some d0 :: r.set i none) (σ := some v0 :: σ) (i := i + 1) z (by simpa using hk)
      rw [List.set_cons_succ, List.set_cons_succ, List.set_cons_succ, List.set_set, set_self ev] at q
      exact q
end
theorem RAs.ofReps {cl : Cl} {Hs H : Hp} : ∀ {n : Nat} {ds : List D} {vs : List V}, RepL cl Hs ds vs → ds.length = n → RAs cl Hs H (List.replicate n true) ds vs
  | 0, [], _, r, _ => by cases r; exact .nil
  | n + 1, d :: ds, _, r, h => by
    cases r with
    | cons r1 r2 =>
      rw [List.replicate_succ]
      exact .val r1 (RAs.ofReps r2 (by simpa using h))
  | 0, _ :: _, _, _, h => by cases h
  | _ + 1, [], _, _, h => by cases h

/-! ### calls that change what they are handed -/
def PostX (E : En) (ks' : List Kd) (k : Kd) (fin : List Kd → Prop) (W : WX) (σ : L2.St) (Q : VK) : O → Prop
  | .rt d r => ∀ v Hs' H', StRel E Hs' H' (k :: ks') (some d :: r) (some v :: σ) → Q v H'
  | .exc x r => ∀ Hs' H' c dd ks2, fin ks2 → StRel E Hs' H' ks2 r σ → XRep E.cl Hs' H' x c dd → W c dd σ H'
  | _ => False
/-- an expression that changes slots -/
structure SX (X : Cx) (E : En) (fin : List Kd → Prop) (ks : List Kd) (k : Kd) (e : Expr) (g : Sl → O) (ks' : List Kd) : Prop where
  run : ∀ (Hs H : Hp) (r : Sl) (σ : L2.St) (W : WX) (Q : VK), Takes X W → StRel E Hs H ks r σ → PostX E ks' k fin W σ Q (g r) → WEx X e σ H Q
@[simp] def onX (o : O) (k : D → Sl → O) : O := match o with
  | .rt d r => k d r
  | .exc x r => .exc x r
  | _ => .stuck
@[simp] def mExprX (g : Sl → O) : Sl → O := fun r => onX (g r) fun _ r' => .nx r'
@[simp] def mSetX (i : Nat) (g : Sl → O) : Sl → O := fun r => onX (g r) fun d r' => .nx (r'.set i (some d))
@[simp] def mRetX (g : Sl → O) : Sl → O := fun r => onX (g r) fun d r' => .rt d r'
section
variable {X : Cx} {E : En} {fin : List Kd → Prop} {kr : Kd} {ks ks' : List Kd} {i : Nat} {k k0 : Kd} {x : Str} {e : Expr} {g : Sl → O} {pos pos' : Pos}
theorem ss_exprX (he : SX X E fin ks k e g ks') (hs : swapsWith e none pos.line X.env = pure false := by rfl) : SS X E kr fin ks (.Expr e pos) (mExprX g) ks' := by
  refine ⟨fun Hs H r σ W Dn tk S P => ?_⟩
  refine ws_of (ps_expr pe_we hs) ?_
  refine he.run _ _ _ _ _ _ tk S ?_
  unfold mExprX at P
  cases q : g r with
  | rt d r' => rw [q] at P; exact fun v Hs' H' S' => P Hs' H' σ S'.pop
  | exc y r' => rw [q] at P; exact fun Hs' H' c dd ks2 f S' xr => P Hs' H' σ c dd ks2 f S' xr
  | nx r' => rw [q] at P; exact P.elim
  | stuck => rw [q] at P; exact P.elim
theorem ss_setX (hN : X.N.Nodup) (he : SX X E fin ks k e g ks') (hk : ks'[i]? = some k0 := by rfl) (hi : X.N[i]? = some x := by rfl) (hx : Loc X.env.scope x := by first | exact Or.inl rfl | exact Or.inr rfl)
    (hs : swapsWith e (some (.Name x pos')) pos.line X.env = pure false := by rfl) (hfn : X.fn x = true ∨ X.env.scope.names.lookup x = some .local := by first | exact .inl rfl | exact .inr rfl | assumption) :
    SS X E kr fin ks (.Assign [.Name x pos'] e pos) (mSetX i g) (ks'.set i k) := by
  refine ⟨fun Hs H r σ W Dn tk S P => ?_⟩
  refine ws_of (ps_set hN hi hx pe_we hs hfn) ?_
  refine he.run _ _ _ _ _ _ tk S ?_
  unfold mSetX at P
  cases q : g r with
  | rt d r' => rw [q] at P; exact fun v Hs' H' S' => P Hs' H' _ (S'.settle hk)
  | exc y r' => rw [q] at P; exact fun Hs' H' c dd ks2 f S' xr => P Hs' H' σ c dd ks2 f S' xr
  | nx r' => rw [q] at P; exact P.elim
  | stuck => rw [q] at P; exact P.elim
theorem ss_retX (he : SX X E fin ks kr e g ks') (hf : fin ks' := by trivial) {kz : List Kd} : SS X E kr fin ks (.Return (some e) pos) (mRetX g) kz := by
  refine ⟨fun Hs H r σ W Dn tk S P => ?_⟩
  refine ws_of (ps_ret pe_we) ?_
  refine he.run _ _ _ _ _ _ tk S ?_
  unfold mRetX at P
  cases q : g r with
  | rt d r' => rw [q] at P; exact fun v Hs' H' S' => P Hs' H' σ v ks' hf S'
  | exc y r' => rw [q] at P; exact fun Hs' H' c dd ks2 f S' xr => P Hs' H' σ c dd ks2 f S' xr
  | nx r' => rw [q] at P; exact P.elim
  | stuck => rw [q] at P; exact P.elim
end
/-! methods -/
section
variable {X : Cx} {CX : CXT} {k : Nat} {f C : Addr} {fd : FuncData} {ps : List Str} {sp : Sp} {E : L2.St → XK} {x m : Str} {p pos apos : Pos} {e o : Expr} {es : List Expr} {ta : TE} {t : TA}
def tMethS (C : Addr) (m : Str) (sp : Sp) (E : L2.St → XK) (ta : TE) (t : TA) : TE := fun σ H Q => ta σ H fun x H1 => ∃ a dx fs, x = .ref a ∧ H1 a = some (.ins C dx fs) ∧ fs.lookup m = none ∧ t σ H1 fun vs H2 => sp (x :: vs) H2 Q (E σ)
theorem pe_mS {pl : Sem Bool} (he : PE X o ta) (c : Cls X.K C) (hm : Meth X.K C m f) (F : FnOk X.prog X.w X.K X.mg X.base CX k f fd ps sp) (hr : Room k X.A) (hb : Binds X.K fd ps []) (hx : ∀ σ, PassesAt CX X σ (E σ)) (ha : PA X (e :: es) t)
    (hst : starEach (e :: es) X.env = (false, eval e X.env) :: starEach es X.env := by rfl) (hpl : (backTo pos (starEach es X.env)).any (·.1) = false := by rfl)
    (ht : eval (.Call (.Attribute o m apos) (e :: es) [] pos) X.env = (do
      let ov ← eval o X.env
      standAt apos.atName
      let (f, first) ← holding [ov] (getMethod ov m pl)
      callWith pos f first (backTo pos (starEach (e :: es) X.env)) (backToKw pos (keywordEach [] X.env))) := by rfl) :
    PE X (.Call (.Attribute o m apos) (e :: es) [] pos) (tMethS C m sp E ta t) := by
  refine ⟨fun pins s σ H Q I h => ?_⟩
  refine PySem.W.methodCall_KW (pl := pl) (thn (he.run pins s σ H _ I h) fun u s1 ⟨x, H1, I1, rx, a, dx, fs, ex, ea, l, q⟩ => ?_) ht
  subst ex
  obtain rfl : u = Value.ref a := rx
  refine getmeth_ok I1 ea c hm l ?_
  refine PySem.W.callWith_K (first := [.ref a]) (h₀ := X.base) I.ok.mod.kin hm.kp (thn (ha.run pos pins s1 σ H1 _ I1 q) fun us s2 ⟨vs, H2, I2, r, q2⟩ => ⟨I2.kIn, ?_⟩) hst hpl
  exact run_fnS (us := .ref a :: us) (vs := .ref a :: vs) F hr hb (hx σ) I2 (.cons rfl r) q2
theorem pe_mS0 {pl : Sem Bool} (he : PE X o ta) (c : Cls X.K C) (hm : Meth X.K C m f) (F : FnOk X.prog X.w X.K X.mg X.base CX k f fd ps sp) (hr : Room k X.A) (hb : Binds X.K fd ps []) (hx : ∀ σ, PassesAt CX X σ (E σ))
    (ht : eval (.Call (.Attribute o m apos) [] [] pos) X.env = (do
      let ov ← eval o X.env
      standAt apos.atName
      let (f, first) ← holding [ov] (getMethod ov m pl)
      callWith pos f first (backTo pos (starEach [] X.env)) (backToKw pos (keywordEach [] X.env))) := by rfl) :
    PE X (.Call (.Attribute o m apos) [] [] pos) (tMethS C m sp E ta fun σ H Q => Q [] H) := by
  refine ⟨fun pins s σ H Q I h => ?_⟩
  refine PySem.W.methodCall_KW (pl := pl) (thn (he.run pins s σ H _ I h) fun u s1 ⟨x, H1, I1, rx, a, dx, fs, ex, ea, l, q⟩ => ?_) ht
  subst ex
  obtain rfl : u = Value.ref a := rx
  refine getmeth_ok I1 ea c hm l ?_
  exact PySem.W.callWith_K0 (first := [.ref a]) I1.kIn hm.kp (run_fnS (us := [.ref a]) (vs := [.ref a]) F hr hb (hx σ) I1 (.cons rfl .nil) q)
end
structure FiM (P : Program) (w : World) (K : PySem.W.Frag) (mg : Str → Option Value) (base : Heap) (cl : Cl) (C m : Str) (k : Nat) (k1 k2 : List (Str × Kd)) (nb : Nat) (kr : Kd) (f : List D → O) : Prop where
  ex : ∃ fa fd ps, (∀ c, cl.o C = some c → Cls K c ∧ Meth K c m fa) ∧ FnOk P w K mg base (L2.CX P w) k fa fd ps (spM cl [.obj none k1] [.obj none k2] (List.replicate nb true) kr f) ∧ Binds K fd ps []
@[simp] def mMeth (C : Str) (i : Nat) (f : List D → O) (t : Sl → R (List D)) : Sl → O := fun r => match r[i]? with
  | some (some (.obj C' fs)) => if C' = C then (match t r with
    | .ok ds => (match f (.obj C fs :: ds) with
      | .rt d [some d'] => .rt d (r.set i (some d'))
      | .exc x [some d'] => .exc x (r.set i (some d'))
      | _ => .stuck)
    | .exc x => .exc x r
    | .stuck => .stuck) else .stuck
  | _ => .stuck
section
variable {X : Cx} {E : En} {fin : List Kd → Prop} {kr : Kd} {ks ks' : List Kd} {i : Nat} {n : Option Addr} {k : Nat} {k1 k2 : List (Str × Kd)} {nb : Nat} {x C m : Str} {e : Expr} {es : List Expr} {f : List D → O} {t : Sl → R (List D)} {p1 apos pos : Pos}
/-- behind the arguments: the method's promise -/
theorem meth_call {Hs H : Hp} {r : Sl} {σ : L2.St} {W : WX} {Q : VK} {fs : List (Str × D)} {ds : List D} {vs : List V} (S : StRel E Hs H ks r σ) (hk : ks[i]? = some (.obj n k1)) (hd : r[i]? = some (some (.obj C fs))) (f1 : (Kd.obj n k1).fine = true) (f2 : (Kd.obj n k2).fine = true) (fr : kr.fine = true) (hf : fin (ks.set i (.obj n k2)))
    (a : RAs E.cl Hs H (List.replicate nb true) ds vs) {a0 : Addr} (ea : σ[i]? = some (some (.ref a0)))
    (P : PostX E (ks.set i (.obj n k2)) kr fin W σ Q (match f (.obj C fs :: ds) with
      | .rt d [some d'] => .rt d (r.set i (some d'))
      | .exc x [some d'] => .exc x (r.set i (some d'))
      | _ => .stuck)) : spM E.cl [.obj none k1] [.obj none k2] (List.replicate nb true) kr f (.ref a0 :: vs) H Q (WE W σ) := by
  obtain ⟨v, Af, ev, o, nd, dz, back⟩ := S.chgV hk hd f1
  rw [ea] at ev
  cases ev
  obtain ⟨b, eb, op, hn⟩ := o.pinO
  cases eb
  refine ⟨[a0], vs, [.obj C fs], ds, Hs, Af, rfl, rfl, S.sub, ?_, nd, dz, RAs.ofReps a.reps (by simpa using a.len.2), ?_⟩
  · have z := RM.cons op (.nil (cl := E.cl) (N := fun b => sans H Af b = none) (B := sans H Af) (Hs := Hs) (H := H))
    rw [List.append_nil] at z
    exact z
  · show PostM E.cl _ kr [a0] Hs H Af Q (WE W σ) (f (.obj C fs :: ds))
    cases q : f (.obj C fs :: ds) with
    | stuck => rw [q] at P; exact P.elim
    | nx r' => rw [q] at P; exact P.elim
    | rt d es =>
      rw [q] at P
      match es, P with
      | [some d'], P =>
        refine ⟨[d'], rfl, fun v Hs' H' A0 A2 g o0 rm nd2 di2 => ?_⟩
        cases rm with
        | cons o2 t2 =>
          cases t2
          rw [List.append_nil] at nd2 di2
          have ou := o2.unpinO (n := n) hn
          exact P v Hs' H' ((back Hs' H' (.obj n k2) d' _ f2 g ou (List.nodup_append.mp nd2).2.1 fun b hb => di2 b (List.mem_append_right _ hb)).2 kr d v A0 fr o0 nd2 fun b hb => di2 b (List.mem_append_left _ hb))
      | [], P => exact P.elim
      | [none], P => exact P.elim
      | none :: _ :: _, P => exact P.elim
      | some _ :: _ :: _, P => exact P.elim
    | exc y es =>
      rw [q] at P
      match es, P with
      | [some d'], P =>
        refine ⟨[d'], rfl, fun c dd Hs' H' A2 g rm nd2 di2 xr => ?_⟩
        cases rm with
        | cons o2 t2 =>
          cases t2
          rw [List.append_nil] at nd2 di2
          have ou := o2.unpinO (n := n) hn
          exact P Hs' H' c dd _ hf (back Hs' H' (.obj n k2) d' _ f2 g ou nd2 di2).1 xr
      | [], P => exact P.elim
      | [none], P => exact P.elim
      | none :: _ :: _, P => exact P.elim
      | some _ :: _ :: _, P => exact P.elim
/-- x.m(e, ..) -/
theorem sx_meth (F : FiM X.prog X.w X.K X.mg X.base E.cl C m k k1 k2 nb kr f) (hr : Room k X.A) (ha : SA X E ks (List.replicate nb true) (e :: es) t) (hq : NmOk x) (hno : m ∉ k1.map (·.1)) (hf0 : fin ks := by trivial) (hk : ks[i]? = some (.obj n k1) := by rfl)
    (h2 : ks.set i (.obj n k2) = ks' := by rfl) (hf : fin ks' := by trivial) (f1 : (Kd.obj n k1).fine = true := by rfl) (f2 : (Kd.obj n k2).fine = true := by rfl) (fr : kr.fine = true := by rfl) (hN : X.N[i]? = some x := by rfl) (hv : Vis X.env.scope x := by first | exact Or.inl rfl | exact Or.inr (Or.inl rfl) | exact Or.inr (Or.inr rfl)) {pl : Sem Bool}
    (hst : starEach (e :: es) X.env = (false, eval e X.env) :: starEach es X.env := by rfl) (hpl : (backTo pos (starEach es X.env)).any (·.1) = false := by rfl)
    (ht : eval (.Call (.Attribute (.Name x p1) m apos) (e :: es) [] pos) X.env = (do
      let ov ← eval (.Name x p1) X.env
      standAt apos.atName
      let (f, first) ← holding [ov] (getMethod ov m pl)
      callWith pos f first (backTo pos (starEach (e :: es) X.env)) (backToKw pos (keywordEach [] X.env))) := by rfl) :
    SX X E fin ks kr (.Call (.Attribute (.Name x p1) m apos) (e :: es) [] pos) (mMeth C i f t) ks' := by
  subst h2
  refine ⟨fun Hs H r σ W Q tk S P => ?_⟩
  obtain ⟨fa, fd, ps, F1, F2, F3⟩ := F.ex
  unfold mMeth at P
  split at P
  · rename_i C' fs hd
    split at P
    · rename_i hc
      subst hc
      obtain ⟨a, c, dx, xs, As, ea, hc, h1, h3⟩ := S.objAt hk hd
      obtain ⟨M1, M2⟩ := F1 c hc
      refine we_of (pe_mS (pe_var hN hv hq.1 hq.2) M1 M2 F2 hr F3 (fun σ => passAt tk σ) pa_wa hst hpl ht) ?_
      refine ⟨.ref a, ea, a, dx, xs, rfl, h1, lookup_out (by rw [h3.names.1]; exact hno), ?_⟩
      refine ha.run _ _ _ _ _ _ tk S ?_
      cases q : t r with
      | stuck => rw [q] at P; exact P.elim
      | exc y => rw [q] at P; exact fun c dd Hs' H' g xr => P Hs' H' c dd ks hf0 (S.grow g) xr
      | ok ds =>
        rw [q] at P
        exact fun vs Hs' H' g aa => meth_call (S.grow g) hk hd f1 f2 fr hf aa ea P
    · exact P.elim
  · exact P.elim
/-- x.m() -/
theorem sx_meth0 (F : FiM X.prog X.w X.K X.mg X.base E.cl C m k k1 k2 0 kr f) (hr : Room k X.A) (hq : NmOk x) (hno : m ∉ k1.map (·.1)) (hk : ks[i]? = some (.obj n k1) := by rfl)
    (h2 : ks.set i (.obj n k2) = ks' := by rfl) (hf : fin ks' := by trivial) (f1 : (Kd.obj n k1).fine = true := by rfl) (f2 : (Kd.obj n k2).fine = true := by rfl) (fr : kr.fine = true := by rfl) (hN : X.N[i]? = some x := by rfl) (hv : Vis X.env.scope x := by first | exact Or.inl rfl | exact Or.inr (Or.inl rfl) | exact Or.inr (Or.inr rfl)) {pl : Sem Bool}
    (ht : eval (.Call (.Attribute (.Name x p1) m apos) [] [] pos) X.env = (do
      let ov ← eval (.Name x p1) X.env
      standAt apos.atName
      let (f, first) ← holding [ov] (getMethod ov m pl)
      callWith pos f first (backTo pos (starEach [] X.env)) (backToKw pos (keywordEach [] X.env))) := by rfl) :
    SX X E fin ks kr (.Call (.Attribute (.Name x p1) m apos) [] [] pos) (mMeth C i f gNil) ks' := by
  subst h2
  refine ⟨fun Hs H r σ W Q tk S P => ?_⟩
  obtain ⟨fa, fd, ps, F1, F2, F3⟩ := F.ex
  unfold mMeth at P
  split at P
  · rename_i C' fs hd
    split at P
    · rename_i hc
      subst hc
      obtain ⟨a, c, dx, xs, As, ea, hc, h1, h3⟩ := S.objAt hk hd
      obtain ⟨M1, M2⟩ := F1 c hc
      refine we_of (pe_mS0 (pe_var hN hv hq.1 hq.2) M1 M2 F2 hr F3 (fun σ => passAt tk σ) ht) ?_
      refine ⟨.ref a, ea, a, dx, xs, rfl, h1, lookup_out (by rw [h3.names.1]; exact hno), ?_⟩
      exact meth_call S hk hd f1 f2 fr hf .nil ea P
    · exact P.elim
  · exact P.elim
end
/-! objects made -/
structure MkM (P : Program) (w : World) (K : PySem.W.Frag) (mg : Str → Option Value) (base : Heap) (cl : Cl) (C : Str) (k : Nat) (kk : List (Str × Kd)) (nb : Nat) (f : List D → O) : Prop where
  ex : ∃ c fI fd ps, cl.o C = some c ∧ mg C = some (.ref c) ∧ Mk K c fI ∧ FnOk P w K mg base CX0 k fI fd ps (spM cl [.obj none []] [.obj none kk] (List.replicate nb true) .val f) ∧ Binds K fd ps []
@[simp] def dMake (C : Str) (f : List D → O) (ds : List D) : R D := match f (.obj C [] :: ds) with
  | .rt .non [some d] => .ok d
  | _ => .stuck
section
variable {X : Cx} {E : En} {ks : List Kd} {k nb : Nat} {kk : List (Str × Kd)} {C : Str} {f : List D → O} {t : Sl → R (List D)} {e : Expr} {es : List Expr} {p pos : Pos}
theorem made {Hs H : Hp} {Q : VK} {W : WX0} {ds : List D} {vs : List V} {c x dx : Addr} (e : Same Hs H) (hc : E.cl.o C = some c) (fk : (Kd.obj none kk).fine = true) (a : RAs E.cl Hs H (List.replicate nb true) ds vs) (nx : H x = none) (ndx : H dx = none) (ne : dx ≠ x)
    (P : Post E.cl (.obj none kk) Hs H Q W (dMake C f ds)) : spM E.cl [.obj none []] [.obj none kk] (List.replicate nb true) .val f (.ref x :: vs) (upd (upd H dx (.own x)) x (.ins c dx [])) (fun v H2 => v = .non ∧ Q (.ref x) H2) E0 := by
  have s1 : Same H (upd H dx (.own x)) := Same.updNew ndx
  have nx' : upd H dx (.own x) x = none := by rw [upd_ne ne.symm]; exact nx
  have s2 : Same H (upd (upd H dx (.own x)) x (.ins c dx [])) := s1.trans (Same.updNew nx')
  have dz : ∀ b ∈ [x], Hs b = none := fun b hb => by
    simp at hb
    subst hb
    exact e.free nx
  have back : ∀ b, sans (upd (upd H dx (.own x)) x (.ins c dx [])) [x] b = none → H b = none := fun b z => by
    rcases sans_none z with w | w
    · simp at w
      subst w
      exact nx
    · exact s2.free w
  refine ⟨[x], vs, [.obj C []], ds, Hs, [x], rfl, rfl, e.trans s2, ?_, by simp, dz, RAs.ofReps a.reps (by simpa using a.len.2), ?_⟩
  · have o : ORep E.cl (fun b => sans (upd (upd H dx (.own x)) x (.ins c dx [])) [x] b = none) (sans (upd (upd H dx (.own x)) x (.ins c dx [])) [x]) Hs (upd (upd H dx (.own x)) x (.ins c dx [])) (.obj (some x) []) (.obj C []) (.ref x) [x] :=
      .obj ⟨sans_in (by simp), fun b z => (Option.some.inj z).symm⟩ hc upd_same .nil
    exact .cons o .nil
  · show PostM E.cl _ .val [x] Hs _ [x] _ E0 (f (.obj C [] :: ds))
    unfold dMake at P
    cases q : f (.obj C [] :: ds) with
    | stuck => rw [q] at P; exact P.elim
    | nx r' => rw [q] at P; exact P.elim
    | exc y es => rw [q] at P; exact P.elim
    | rt d es =>
      rw [q] at P
      split at P
      · rename_i d1 e1
        cases e1
        refine ⟨[d1], rfl, fun v Hs' H' A0 A2 g o0 rm nd2 di2 => ?_⟩
        have ev : v = .non := by
          cases o0 with
          | val r => cases r; rfl
        refine ⟨ev, ?_⟩
        cases rm with
        | cons o2 t2 =>
          cases t2
          rw [List.append_nil] at nd2 di2
          have nd3 := (List.nodup_append.mp nd2).2.1
          refine P (.ref x) Hs' H' ⟨g.s, ?_, fun b z => ?_, g.sub, fun R z => ?_⟩ ⟨_, ORep.renew _ _ _ _ fk (fun b hb => back b (di2 b (List.mem_append_right _ hb)).2) (o2.unpinO (fun b z => nomatch z)), nd3, fun b hb => ?_⟩
          · exact ((sans_sub (A := [x]) s2 fun b hb => by simp at hb; subst hb; exact nx)).trans g.h
          · rcases g.n b z with w | w
            · exact .inl w
            · exact .inr (back b w)
          · refine g.t R (z.ext fun b u q => ?_)
            have hb1 : b ≠ x := ne_of_none q nx
            have hb2 : b ≠ dx := ne_of_none q ndx
            rw [sans_out fun w => by simp at w; exact hb1 w, upd_ne hb1, upd_ne hb2]
            exact q
          · have z := di2 b (List.mem_append_right _ hb)
            exact ⟨z.1, back b z.2⟩
      · exact P.elim
/-- C(e, ..) -/
theorem se_make (M : MkM X.prog X.w X.K X.mg X.base E.cl C k kk nb f) (hr : Room (k + 1) X.A) (ha : SA X E ks (List.replicate nb true) (e :: es) t) (hq : NmOk C) (fk : (Kd.obj none kk).fine = true := by rfl) (hg : Gl X C := by rfl)
    (he : starEach (e :: es) X.env = (false, eval e X.env) :: starEach es X.env := by rfl) (hpl : (backTo pos (starEach es X.env)).any (·.1) = false := by rfl) : SE X E ks (.obj none kk) (.Call (.Name C p) (e :: es) [] pos) (gCall (dMake C f) t) := by
  refine ⟨fun Hs H r σ W Q tk S P => ?_⟩
  obtain ⟨c, fI, fd, ps, h1, h2, h3, h4, h5⟩ := M.ex
  refine we_of (pe_make h3 h4 hr hg h2 h5 .nil pass0 pa_wa hq.1 he hpl) ?_
  refine ha.run _ _ _ _ _ _ tk S (PostA.of P fun ds vs Hs' H' e1 g1 a P1 => ?_)
  intro x dx nx ndx ne
  rw [List.append_nil]
  exact made g1.sub h1 fk a nx ndx ne P1
/-- C() -/
theorem se_make0 (M : MkM X.prog X.w X.K X.mg X.base E.cl C k kk 0 f) (hr : Room (k + 1) X.A) (hq : NmOk C) (fk : (Kd.obj none kk).fine = true := by rfl) (hg : Gl X C := by rfl) : SE X E ks (.obj none kk) (.Call (.Name C p) [] [] pos) (gCall (dMake C f) gNil) := by
  refine ⟨fun Hs H r σ W Q tk S P => ?_⟩
  obtain ⟨c, fI, fd, ps, h1, h2, h3, h4, h5⟩ := M.ex
  refine we_of (pe_make0 h3 h4 hr hg h2 h5 .nil pass0 hq.1) ?_
  intro x dx nx ndx ne
  exact made S.sub h1 fk .nil nx ndx ne P
/-- e.f of an object that nobody else holds -/
theorem se_attrT {j : Nat} {kf : Kd} {F : Str} {g : Sl → R D} (T : FldOk X.K E.cl C F) (he : SE X E ks (.obj none kk) e g) (hj : kk[j]? = some (F, kf) := by rfl) (hnd : (kk.map (·.1)).Nodup) (hb : attributeBase e F X.env (eval e X.env) = eval e X.env := by rfl) :
    SE X E ks kf (.Attribute e F pos) (gUn (oFld C j) g) := by
  refine ⟨fun Hs H r σ W Q tk S P => ?_⟩
  refine we_of (pe_fld pe_we hb) ?_
  refine he.run _ _ _ _ _ _ tk S ?_
  unfold gUn at P
  cases q : g r with
  | stuck => rw [q] at P; exact P
  | exc y => rw [q] at P; exact P
  | ok d =>
  rw [q] at P
  have P1 : Post E.cl kf Hs H Q (fun c dd H' => W c dd σ H') (oFld C j d) := P
  intro v Hs1 H1 g1 k1
  obtain ⟨A, o, nd, dz⟩ := k1
  cases o with
  | obj h0 h1 h2 h3 =>
    rename_i a c dx C' ds xs As
    obtain ⟨pre, A, post, d1, v1, e4, e5, e6, e7, _⟩ := OFs.pos j h3 hj
    dsimp only [oFld] at P1
    split at P1
    · rename_i hc
      subst hc
      rw [e5] at P1
      refine ⟨a, c, dx, xs, v1, rfl, h2, (T c h1).1, (T c h1).2, lookup_at (by rw [h3.names.1]; exact hnd) e6, P1 v1 Hs1 H1 g1 ?_⟩
      subst e4
      have nd2 := (List.nodup_append.mp (List.nodup_append.mp (List.nodup_cons.mp nd).2).2.1).1
      have dz2 : ∀ b ∈ A, Hs1 b = none ∧ H b = none := fun b hb => dz b (List.mem_cons_of_mem _ (List.mem_append_right _ (List.mem_append_left _ hb)))
      exact ⟨A, e7, nd2, fun b hb => dz2 b hb⟩
    · exact P1.elim
end
end VL
end

noncomputable section
namespace VL
open PySem PySem.Spec PyProof.Rows L2

@[simp] def outFO : O → R D
  | .rt d _ => .ok d
  | .exc x _ => .exc x
  | _ => .stuck
@[simp] def runFO (m : Sl → O) (n : Nat) : List D → R D := fun ds => outFO (m (ds.map some ++ List.replicate n none))
/-- a def that returns an object -/
theorem def_okO {P : Program} {w : World} {K : PySem.W.Frag} {mg : Str → Option Value} {base : Heap} {cl : Cl} {x qual : Str} {st : Stmt} {fa : Addr} {fd : FuncData} {N ps : List Str} {k : Nat} {bs : List Bool} {kr : Kd} {ls ks' : List Kd} {m : Sl → O}
    (F : Fun K x qual st fa fd) (S : FnScope N ps (defScope st)) (gm : mg x = some (.ref fa)) (bn : Binds K fd ps []) (hb : bs.length = ps.length) (hN : N.length = ps.length + ls.length) (fk : kr.fine = true)
    (body : ∀ (cdv : Value) (A : Around) (outer : List Env) (s : Shared) (H : Hp) (E : XK) (h0 s0 b0 : Hp), Room k (A.deeper (envOfC qual (defScope st) s.heap.objs.size fa cdv)) →
      SB (cxOf (L2.CX P w) P w K mg base N qual (defScope st) fa cdv A outer s H E) ⟨cl, h0, s0, b0⟩ kr (fun _ => True) (bs.map kdOf ++ ls) (defBody st) m ks') : Fi P w K mg base cl x (k + 1) bs kr (runFO m ls.length) := by
  refine ⟨fa, fd, ps, ?_, gm, F.kp, bn⟩
  refine F.okX S (fun vs H Q E h => ?_) (fun cdv A outer s H vs Q E hr h => ?_)
  · obtain ⟨ds, Hs, _, a, _⟩ := h
    rw [a.len.1, hb]
  · obtain ⟨ds, Hs, e, a, p⟩ := h
    refine ⟨_, pss_ws, ?_⟩
    have tk : Takes (cxOf (L2.CX P w) P w K mg base N qual (defScope st) fa cdv A outer s H E) (fun c dd _ H' => E c dd H') := takes_of rfl rfl rfl rfl
    have hst : L2.start N vs = vs.map some ++ List.replicate ls.length none := by
      unfold L2.start
      rw [a.len.1, hb, hN, Nat.add_sub_cancel_left]
    have S0 : StRel ⟨cl, H, Hs, H⟩ Hs H (bs.map kdOf ++ ls) (ds.map some ++ List.replicate ls.length none) (L2.start N vs) := by
      rw [hst]
      exact ⟨[], slots_start rfl a ls, List.nodup_nil, (fun a ha => nomatch ha), Same.refl _, e, Same.refl _, fun a z => .inl z, fun a z => z, fun _ z => z⟩
    refine (body cdv A outer s H E H Hs H hr).run _ _ _ _ _ _ tk S0 ?_
    unfold runFO at p
    cases q : m (ds.map some ++ List.replicate ls.length none) with
    | stuck => rw [q] at p; exact p
    | nx r => rw [q] at p; exact p.elim
    | rt d r =>
      rw [q] at p
      intro Hs' H' σ' v ks2 _ S'
      have f := S'.facts
      refine p v Hs' H' ⟨f.1, f.2.1, f.2.2.1, S'.sub, f.2.2.2⟩ ?_
      obtain ⟨As, s'⟩ := S'
      have sl := s'.sl
      cases sl with
      | cons o t =>
        rename_i A As'
        refine ⟨A, ORep.anyB kr _ _ _ fk o, (List.nodup_append.mp s'.nd).1, fun a ha => ?_⟩
        have z := s'.dis a (List.mem_append_left _ ha)
        exact ⟨z.1, z.2⟩
    | exc z r =>
      rw [q] at p
      intro Hs' H' σ' c dd ks2 _ S' xr
      have f := S'.facts
      exact p c dd Hs' H' ⟨f.1, f.2.1, f.2.2.1, S'.sub, f.2.2.2⟩ xr
/-- a method: self is lent -/
theorem def_okS {P : Program} {w : World} {K : PySem.W.Frag} {mg : Str → Option Value} {base : Heap} {cl : Cl} {C x qual : Str} {st : Stmt} {fa : Addr} {fd : FuncData} {N ps : List Str} {k nb : Nat} {kr : Kd} {k1 k2 : List (Str × Kd)} {ls : List Kd} {m : Sl → O} {ks' : Addr → List Kd}
    (F : Fun K x qual st fa fd) (S : FnScope N ps (defScope st)) (bn : Binds K fd ps []) (M : ∀ c, cl.o C = some c → Cls K c ∧ Meth K c x fa) (hb : 1 + nb = ps.length) (hN : N.length = ps.length + ls.length) (fk : kr.fine = true) (f2 : (Kd.obj none k2).fine = true)
    (hn : kr = .val ∨ kr = .own none) (hk' : ∀ a, (ks' a).take 1 = [.obj (some a) k2])
    (body : ∀ (a : Addr) (cdv : Value) (A : Around) (outer : List Env) (s : Shared) (H : Hp) (E : XK) (h0 s0 b0 : Hp), Room k (A.deeper (envOfC qual (defScope st) s.heap.objs.size fa cdv)) →
      SB (cxOf (L2.CX P w) P w K mg base N qual (defScope st) fa cdv A outer s H E) ⟨cl, h0, s0, b0⟩ kr (fun ks2 => ks2.take 1 = [.obj (some a) k2]) (.obj (some a) k1 :: ((List.replicate nb true).map kdOf ++ ls)) (defBody st) m (ks' a)) : FiM P w K mg base cl C x (k + 1) k1 k2 nb kr (runM m 1 ls.length) := by
  refine ⟨fa, fd, ps, M, def_okM (k1 := [.obj none k1]) (k2 := [.obj none k2]) (ks' := fun as => ks' (as.headD 0)) F S (by simpa using hb) hN fk rfl (by simp [f2]) rfl hn (fun as l => ?_) (fun as l => ?_), bn⟩
  · match as, l with
    | [a], _ => exact hk' a
  · match as, l with
    | [a], _ => exact body a
end VL
end

noncomputable section
namespace VL
open PySem PySem.Spec PyProof.Rows L2

/-! ### xs.insert(i, e) -/
section
variable {X : Cx} {E : En} {kr : Kd} {fin : List Kd → Prop} {ks ks' : List Kd} {e : Expr} {g : Sl → R D} {pos : Pos}
@[simp] def mIns (i : Nat) (gb g : Sl → R D) : Sl → O := fun r => match r[i]? with
  | some (some (.lst ds)) => onR (gb r) r fun z => onR (g r) r fun d => (match z with
    | .int k => if (0 ≤ k ∧ k < i62) ∧ ds.length < szL then .nx (r.set i (some (.lst (ds.take k.toNat ++ [d] ++ ds.drop k.toNat)))) else .stuck
    | _ => .stuck)
  | _ => .stuck
theorem ss_insert {i : Nat} {n : Option Addr} {x : Str} {b : Expr} {gb : Sl → R D} {p1 p2 p3 : Pos} (hb : SE X E ks .val b gb) (he : SE X E ks .val e g) (hf : fin ks := by trivial) (hk : ks[i]? = some (.own n) := by rfl) (hN : X.N[i]? = some x := by rfl) (hv : Vis X.env.scope x := by first | exact Or.inl rfl | exact Or.inr (Or.inl rfl) | exact Or.inr (Or.inr rfl))
    (hq : NmOk x)
    (hs : swapsWith (.Call (.Attribute (.Name x p1) "insert" p2) [b, e] [] p3) none pos.line X.env = pure false := by rfl)
    (hbase : attributeBase (.Name x p1) "insert" X.env (eval (.Name x p1) X.env) = eval (.Name x p1) X.env := by rfl)
    (hfew : ((backTo p3 (starEach [b, e] X.env)).all (fun x => !x.1) && (backToKw p3 (keywordEach [] X.env)).all (fun x => x.1.isSome)
      && decide ([b, e].length + ([] : List Keyword).length + (if ([] : List Keyword).isEmpty then 0 else 1) < 30)) = true := by rfl)
    (hline : (p2.endLine == p3.line) = true := by rfl) (hst : starEach [b, e] X.env = (false, eval b X.env) :: starEach [e] X.env := by rfl) (hst2 : starEach [e] X.env = (false, eval e X.env) :: starEach [] X.env := by rfl) (hplain : (backTo p3 (starEach [e] X.env)).any (·.1) = false := by rfl) :
    SS X E kr fin ks (.Expr (.Call (.Attribute (.Name x p1) "insert" p2) [b, e] [] p3) pos) (mIns i gb g) ks := by
  refine ⟨fun Hs H r σ W Dn tk S P => ?_⟩
  refine ws_of (ps_expr (pe_bm PySem.F.plainAttrs_list PySem.F.slot_list_insert PySem.F.type_list_insert mt_insert (pe_var hN hv hq.1 hq.2) (pa_cons pe_we (pa_cons pe_we pa_nil hst2) hst) hbase hfew hline hst hplain) hs) ?_
  unfold mIns at P
  split at P
  · rename_i ds q
    obtain ⟨a, xs, ea, h1, r1, _⟩ := S.mutL hk q
    refine ⟨.ref a, ea, tyV_lst h1, ?_⟩
    refine hb.run _ _ _ _ _ _ tk S (Post.ofS hf S P fun z vz Hs0 H0 e0 g0 k0 P0 => ?_)
    refine he.run _ _ _ _ _ _ tk (S.grow g0) (Post.ofS hf (S.grow g0) P0 fun d v Hs' H' e1 g1 k1 P1 => ?_)
    obtain ⟨a', xs', ea', h2, r2, up⟩ := ((S.grow g0).grow g1).mutL hk q
    rw [ea] at ea'
    cases ea'
    cases z <;> first | exact P1.elim | skip
    rename_i k
    cases k0.rep
    dsimp only at P1
    split at P1
    · rename_i hz
      obtain ⟨⟨z1, z2⟩, z3⟩ := hz
      rw [i62_val] at z2
      exact ⟨a, xs', k, v, rfl, rfl, h2, by rw [szL_eq, r2.length]; exact z3, z1, by omega, P1 _ _ _ (up _ _ (((RepL.take k.toNat r2).app (.cons k1.rep .nil)).app (RepL.drop k.toNat r2)))⟩
    · exact P1.elim
  · exact P.elim
end
end VL
end

noncomputable section
namespace VL
open PySem PySem.Spec PyProof.Rows L2

/-! ### d[k] -/
@[simp] def dDix : D → D → R D
  | .dct kvs, kd => match keyOf kd with
    | some k => match valD kvs k with
      | some d => .ok d
      | none => .stuck
    | none => .stuck
  | _, _ => .stuck
theorem RepK.at_ {cl : Cl} {H : Hp} (k : Key) : ∀ {ds : List (Key × D)} {xs : List (Key × V)} {d : D}, RepK cl H ds xs → valD ds k = some d → ∃ v, valV xs k = some v ∧ Rep cl H d v
  | [], _, _, h, e => by cases e
  | (k0, d0) :: _, _, _, h, e => by
    cases h with
    | cons h1 h2 =>
      by_cases c : k0 = k
      · rw [valD_pos c] at e
        cases e
        rw [valV_pos c]
        exact ⟨_, rfl, h1⟩
      · rw [valD_neg c] at e
        rw [valV_neg c]
        exact RepK.at_ k h2 e
theorem RepK.none_ {cl : Cl} {H : Hp} (k : Key) : ∀ {ds : List (Key × D)} {xs : List (Key × V)}, RepK cl H ds xs → ((valV xs k).isSome = (valD ds k).isSome)
  | [], _, h => by cases h; rfl
  | (k0, d0) :: _, _, h => by
    cases h with
    | cons h1 h2 =>
      by_cases c : k0 = k
      · rw [valD_pos c, valV_pos c]; rfl
      · rw [valD_neg c, valV_neg c]; exact RepK.none_ k h2
section
variable {X : Cx} {E : En} {ks : List Kd} {a b : Expr} {ga gb : Sl → R D} {pos : Pos}
theorem se_dix (hu : X.A.units + 65 < cLine) (ha : SE X E ks .bor a ga) (hb : SE X E ks .bor b gb) (hs : NoSl b := by intro _ _; rfl) : SE X E ks .val (.Subscript a b pos) (gBin dDix ga gb) := by
  refine ⟨fun Hs H r σ W Q tk S P => ?_⟩
  refine we_of (pe_dget (by omega) pe_we pe_we hs) ?_
  refine ha.run _ _ _ _ _ _ tk S (P.imp fun d1 v1 Hs1 H1 e1 g1 k1 P1 => ?_)
  refine hb.run _ _ _ _ _ _ tk (S.grow g1) (P1.imp fun d2 v2 Hs2 H2 e2 g2 k2 P2 => ?_)
  cases d1 <;> first | exact P2.elim | skip
  rename_i kvs
  dsimp only [dDix] at P2
  split at P2
  · rename_i k qk
    have ev := keyOf_rb k2.rb qk
    subst ev
    split at P2
    · rename_i d qd
      obtain ⟨p, xs, rfl, h1, r1⟩ := (k1.rb.grow g2).dctInv g2.sub
      obtain ⟨v, ev, rv⟩ := r1.at_ k qd
      refine ⟨p, v, rfl, ?_, P2.finV g2.sub rv⟩
      rw [← ev]
      exact .inl ⟨_, _, h1, rfl, rfl⟩
    · exact P2.elim
  · exact P2.elim
/-- k in d, k not in d -/
@[simp] def dDin : D → D → R D
  | kd, .dct kvs => match keyOf kd with
    | some k => .ok (.bl (valD kvs k).isSome)
    | none => .stuck
  | _, _ => .stuck
@[simp] def dDout : D → D → R D
  | kd, .dct kvs => match keyOf kd with
    | some k => .ok (.bl (!(valD kvs k).isSome))
    | none => .stuck
  | _, _ => .stuck
theorem din_read (hu : X.A.units + 65 < cLine) {f : Bool → Bool} {fd : D → D → R D} (hfd : ∀ kd d, fd kd d = match d with
      | .dct kvs => (match keyOf kd with
        | some k => .ok (.bl (f (valD kvs k).isSome))
        | none => .stuck)
      | _ => .stuck) (ha : SE X E ks .bor a ga) (hb : SE X E ks .bor b gb) {Hs H : Hp} {r : Sl} {σ : L2.St} {W : WX} {Q : VK} (tk : Takes X W) (S : StRel E Hs H ks r σ)
    (P : Post E.cl .val Hs H Q (fun c dd H' => W c dd σ H') (gBin fd ga gb r)) : WEx X a σ H fun y H1 => WEx X b σ H1 fun x H2 => ∃ a o, x = .ref a ∧ DGet H2 a y o ∧ Q (.bl (f o.isSome)) H2 := by
  refine ha.run _ _ _ _ _ _ tk S (P.imp fun d1 v1 Hs1 H1 e1 g1 k1 P1 => ?_)
  refine hb.run _ _ _ _ _ _ tk (S.grow g1) (P1.imp fun d2 v2 Hs2 H2 e2 g2 k2 P2 => ?_)
  rw [hfd] at P2
  cases d2 <;> first | exact P2.elim | skip
  rename_i kvs
  dsimp only at P2
  split at P2
  · rename_i k qk
    have ev := keyOf_rb k1.rb qk
    subst ev
    obtain ⟨p, xs, rfl, h1, r1⟩ := k2.rb.dctInv g2.sub
    refine ⟨p, _, rfl, .inl ⟨_, _, h1, rfl, rfl⟩, ?_⟩
    rw [r1.none_ k]
    exact P2.finV g2.sub (.bl _)
  · exact P2.elim
theorem dDin_eq (kd d : D) : dDin kd d = match d with
      | .dct kvs => (match keyOf kd with
        | some k => .ok (.bl (id (valD kvs k).isSome))
        | none => .stuck)
      | _ => .stuck := by cases d <;> first | rfl | (cases kd <;> rfl)
theorem dDout_eq (kd d : D) : dDout kd d = match d with
      | .dct kvs => (match keyOf kd with
        | some k => .ok (.bl (not (valD kvs k).isSome))
        | none => .stuck)
      | _ => .stuck := by cases d <;> first | rfl | (cases kd <;> rfl)
theorem se_din (hu : X.A.units + 65 < cLine) (ha : SE X E ks .bor a ga) (hb : SE X E ks .bor b gb) (hm : behindInMarks .In b = false := by rfl) : SE X E ks .val (.Compare a [.In] [b] pos) (gBin dDin ga gb) :=
  ⟨fun Hs H r σ W Q tk S P => we_of (pe_cmp (pc_din (by omega) pe_we pe_we) hm) (din_read hu (f := id) dDin_eq ha hb tk S P)⟩
theorem se_dout (hu : X.A.units + 65 < cLine) (ha : SE X E ks .bor a ga) (hb : SE X E ks .bor b gb) (hm : behindInMarks .NotIn b = false := by rfl) : SE X E ks .val (.Compare a [.NotIn] [b] pos) (gBin dDout ga gb) :=
  ⟨fun Hs H r σ W Q tk S P => we_of (pe_cmp (pc_dnotin (by omega) pe_we pe_we) hm) (din_read hu (f := not) dDout_eq ha hb tk S P)⟩
theorem PostT.ofB {cl : Cl} {Hs H : Hp} {Q : Bool → Hp → Prop} {W : WX0} {x : R D} (P : PostT cl Hs H Q W (x >>= asB)) : Post cl .val Hs H (fun v H' => ∃ k, v = .bl k ∧ Q k H') W x := by
  cases x with
  | stuck => exact P
  | exc z => exact P
  | ok d =>
    intro v Hs' H' g rk
    cases d <;> first | exact P.elim | skip
    have rp := rk.rep
    cases rp
    exact ⟨_, rfl, P Hs' H' g⟩
theorem st_din (hu : X.A.units + 65 < cLine) (ha : SE X E ks .bor a ga) (hb : SE X E ks .bor b gb) (hm : behindInMarks .In b = false := by rfl) : ST X E ks (.Compare a [.In] [b] pos) (gTest (gBin dDin ga gb)) :=
  ⟨fun Hs H r σ W Q tk S P => wt_of (pt_cmp (pc_din (by omega) pe_we pe_we) hm) (din_read hu (f := id) dDin_eq ha hb tk S (PostT.ofB P))⟩
theorem st_dout (hu : X.A.units + 65 < cLine) (ha : SE X E ks .bor a ga) (hb : SE X E ks .bor b gb) (hm : behindInMarks .NotIn b = false := by rfl) : ST X E ks (.Compare a [.NotIn] [b] pos) (gTest (gBin dDout ga gb)) :=
  ⟨fun Hs H r σ W Q tk S P => wt_of (pt_cmp (pc_dnotin (by omega) pe_we pe_we) hm) (din_read hu (f := not) dDout_eq ha hb tk S (PostT.ofB P))⟩
end

/-! ### len(set(xs)) of whole numbers -/
theorem met_ok (f : Nat → Int) : ∀ n, (firstMet f n).Nodup ∧ ∀ k, k ∈ firstMet f n ↔ k ∈ (List.range n).map f
  | 0 => ⟨List.Pairwise.nil, fun k => by simp [firstMet_zero]⟩
  | n + 1 => by
    obtain ⟨h1, h2⟩ := met_ok f n
    rw [firstMet_succ, List.range_succ, List.map_append]
    unfold step_dedup
    by_cases c : (firstMet f n).any (· == f n) = true
    · rw [if_pos c]
      refine ⟨h1, fun k => ?_⟩
      rw [h2 k, List.mem_append]
      obtain ⟨y, hy, ey⟩ := List.any_eq_true.mp c
      have e : y = f n := by simpa using ey
      constructor
      · exact .inl
      · rintro (w | w)
        · exact w
        · have : k = f n := by simpa using w
          rw [this, ← e]
          exact (h2 y).mp hy
    · rw [if_neg c]
      have hn : f n ∉ firstMet f n := fun w => c (List.any_eq_true.mpr ⟨_, w, by simp⟩)
      refine ⟨List.nodup_append.mpr ⟨h1, by simp, fun a ha b hb z => ?_⟩, fun k => ?_⟩
      · have : b = f n := by simpa using hb
        exact hn (this ▸ z ▸ ha)
      · rw [List.mem_append, List.mem_append, h2 k]
        simp
theorem met_len (ns : List Int) : (firstMet (fun i => ns.getD i 0) ns.length).length = (sortSet ns).length := by
  obtain ⟨h1, h2⟩ := met_ok (fun i => ns.getD i 0) ns.length
  refine List.Perm.length_eq ((List.perm_ext_iff_of_nodup h1 ((sortSet_lt ns).imp fun {a b} h => by omega)).mpr fun k => ?_)
  rw [h2 k, sortSet_mem]
  constructor
  · intro w
    obtain ⟨i, hi, rfl⟩ := List.mem_map.mp w
    have hi' := List.mem_range.mp hi
    show ns.getD i 0 ∈ ns
    rw [List.getD_eq_getElem?_getD, List.getElem?_eq_getElem hi']
    exact List.getElem_mem hi'
  · intro w
    obtain ⟨i, hi, rfl⟩ := List.getElem_of_mem w
    refine List.mem_map.mpr ⟨i, List.mem_range.mpr hi, ?_⟩
    show ns.getD i 0 = ns[i]
    rw [List.getD_eq_getElem?_getD, List.getElem?_eq_getElem hi]
    rfl
def tLenSetA (K : PySem.W.Frag) (ta : TE) : TE := fun σ H Q => ta σ H fun x H1 => ∃ (l : Addr) (ns : List Int), x = .ref l ∧ SqL K H1 l (ns.map V.int) ∧ ns.length ≤ 4000 ∧ Q (.int ((sortSet ns).length : Nat)) H1
theorem pe_lenSetA {X : Cx} {a : Expr} {ta : TE} {p p2 q pos : Pos} (hg : Gl X "len") (hm : X.mg "len" = none) (hg2 : Gl X "set") (hm2 : X.mg "set" = none) (ha : PE X a ta) (hc : X.calm = true := by rfl)
    (na : starEach [a] X.env = (false, eval a X.env) :: starEach [] X.env := by rfl) : PE X (.Call (.Name "len" p) [.Call (.Name "set" p2) [a] [] q] [] pos) (tLenSetA X.K ta) := by
  refine ⟨fun pins s σ H Q I h => ?_⟩
  refine Call_ (ld_blt I hg hm boot_len ?_)
  refine PyProof.Rows.callWith_builtin1 (PyProof.Rows.args_cons ?_ rfl) rfl rfl
  refine Call_ (ld_blt I hg2 hm2 boot_set ?_)
  refine PyProof.Rows.callWith_type1 (PyProof.Rows.args_cons (thn (ha.run pins s σ H _ I h) fun v s1 ⟨x, H1, I1, r1, q1⟩ => PyProof.Rows.args_nil ?_) na) na rfl
  obtain ⟨l, ns, rfl, hq, hl, q1⟩ := q1
  cases r1
  obtain ⟨its, r, pl, hz⟩ := I1.list hq
  have hlen : its.toArray.size = ns.length := by rw [List.size_toArray, ← r.length, List.length_map]
  refine call_set_list (I1.ok.hd hc) pl.isList (by simpa using RZ.intsAre_vals r) (by rw [hlen]; unfold scanBound; omega) fun h' tk hS hk => ?_
  refine PyProof.Rows.args_nil ?_
  rw [hlen] at hS
  obtain ⟨o, es, ep, t, ho, hex, hd, _, _, _, hf, hn⟩ := hS
  have I2 : Inv X pins σ H1 { s1 with heap := h', toks := tk } := I1.kept fun b o e => hk b o (Heap.lt_size e) e
  have ln := met_len ns
  have ll := sortSet_len ns
  exact call_len_set ho hex hd hf (by rw [hn] <;> omega) ⟨.int ((sortSet ns).length : Nat), H1, I2.tok _, ⟨_, by rw [hn, ln]⟩, q1⟩
def dLenSet (d : D) : R D := match d with
  | .lst ds => match intsOf ds with
    | some ns => if ns.length ≤ 4000 then .ok (.int ((sortSet ns).length : Nat)) else .stuck
    | none => .stuck
  | _ => .stuck
theorem se_lenSet {X : Cx} {E : En} {ks : List Kd} {e : Expr} {g : Sl → R D} {p1 p2 q pos : Pos} (B : Bl X.mg) (he : SE X E ks .bor e g) (hc : X.calm = true := by rfl) (hg : Gl X "len" := by rfl) (hg2 : Gl X "set" := by rfl)
    (na : starEach [e] X.env = (false, eval e X.env) :: starEach [] X.env := by rfl) : SE X E ks .val (.Call (.Name "len" p1) [.Call (.Name "set" p2) [e] [] q] [] pos) (gUn dLenSet g) := by
  refine ⟨fun Hs H r σ W Q tk S P => ?_⟩
  refine we_of (pe_lenSetA hg B.len hg2 B.set pe_we hc na) ?_
  refine he.run _ _ _ _ _ _ tk S (P.imp fun d v Hs1 H1 e1 g1 k1 P1 => ?_)
  unfold dLenSet at P1
  cases d <;> first | exact P1.elim | skip
  dsimp only at P1
  split at P1
  · rename_i ns qn
    split at P1
    · rename_i hl
      obtain ⟨a, rfl, h1⟩ := k1.rb.intsInv g1.sub qn
      exact ⟨a, ns, rfl, SqL.of h1, hl, P1.finV g1.sub (.int _)⟩
    · exact P1.elim
  · exact P1.elim

/-! ### x.pop() -/
/-- what needs no heap -/
def D.scal : D → Bool
  | .non => true
  | .bl _ => true
  | .int _ => true
  | .str _ => true
  | _ => false
theorem Rep.scal {cl : Cl} {H H' : Hp} {d : D} {v : V} (h : Rep cl H d v) (s : d.scal = true) : Rep cl H' d v := by
  cases d <;> first | (cases s; done) | skip
  · cases h; exact .non
  · cases h; exact .bl _
  · cases h; exact .int _
  · cases h; exact .str _
theorem RepL.last {cl : Cl} {H : Hp} {ds : List D} {xs : List V} {d : D} (r : RepL cl H ds xs) (h : ds.getLast? = some d) : ∃ v, xs[xs.length - 1]? = some v ∧ Rep cl H d v := by
  rw [List.getLast?_eq_getElem?] at h
  rw [r.length]
  exact r.get h
section
variable {X : Cx} {E : En} {fin : List Kd → Prop} {kr : Kd} {ks ks' : List Kd} {i : Nat} {n : Option Addr} {x : Str} {e b : Expr} {g : Sl → R D} {m : Sl → O} {p1 p2 p3 pos : Pos}
@[simp] def mPop (i : Nat) : Sl → O := fun r => match r[i]? with
  | some (some (.lst ds)) => match ds.getLast? with
    | some d => .rt d (r.set i (some (.lst ds.dropLast)))
    | none => .stuck
  | _ => .stuck
theorem sx_pop (hq : NmOk x) (hk : ks[i]? = some (.own n) := by rfl) (hN : X.N[i]? = some x := by rfl) (hv : Vis X.env.scope x := by first | exact Or.inl rfl | exact Or.inr (Or.inl rfl) | exact Or.inr (Or.inr rfl))
    (hbase : attributeBase (.Name x p1) "pop" X.env (eval (.Name x p1) X.env) = eval (.Name x p1) X.env := by rfl) (hline : (p2.endLine == p3.line) = true := by rfl) :
    SX X E fin ks .val (.Call (.Attribute (.Name x p1) "pop" p2) [] [] p3) (mPop i) ks := by
  refine ⟨fun Hs H r σ W Q tk S P => ?_⟩
  refine we_of (pe_bm0 PySem.F.plainAttrs_list PySem.F.slot_list_pop PySem.F.type_list_pop mt_pop (pe_var hN hv hq.1 hq.2) hbase hline) ?_
  unfold mPop at P
  split at P
  · rename_i ds q
    obtain ⟨a, xs, ea, h1, r1, up⟩ := S.mutL hk q
    split at P
    · rename_i d qd
      obtain ⟨v, ev, rv⟩ := r1.last qd
      refine ⟨.ref a, ea, tyV_lst h1, a, xs, v, rfl, rfl, h1, ev, ?_⟩
      have S2 := up _ _ r1.dropLast
      exact P v _ _ (S2.push (k := .val) (Grow.refl S2.sub) rfl (RK.val rv))
    · exact P.elim
  · exact P.elim
/-- d[k] = v, the key asked of what changes slots -/
@[simp] def mPutX (i : Nat) (m : Sl → O) (g : Sl → R D) : Sl → O := fun r => match r[i]? with
  | some (some (.dct _)) => onR (g r) r fun d => if d.scal then (match m r with
    | .rt kd r' => (match keyOf kd with
      | some k => (match r'[i]? with
        | some (some (.dct ds)) => if ds.length < szL then .nx (r'.set i (some (.dct (putD ds k d)))) else .stuck
        | _ => .stuck)
      | none => .stuck)
    | _ => .stuck) else .stuck
  | _ => .stuck
theorem ss_dputX (hu : X.A.units + 65 < cLine) (hb : SX X E fin ks .val b m ks') (he : SE X E ks .val e g) (hq : NmOk x) (hf : fin ks := by trivial) (hk0 : ks[i]? = some (.own n) := by rfl) (hk : ks'[i]? = some (.own n) := by rfl) (hN : X.N[i]? = some x := by rfl) (hv : Vis X.env.scope x := by first | exact Or.inl rfl | exact Or.inr (Or.inl rfl) | exact Or.inr (Or.inr rfl))
    (hs : swapsWith e (some (.Subscript (.Name x p1) b p2)) pos.line X.env = pure false := by rfl) : SS X E kr fin ks (.Assign [.Subscript (.Name x p1) b p2] e pos) (mPutX i m g) ks' := by
  refine ⟨fun Hs H r σ W Dn tk S P => ?_⟩
  refine ws_of (ps_dput (by omega) (pe_var hN hv hq.1 hq.2) pe_we pe_we hs) ?_
  unfold mPutX at P
  split at P
  · rename_i ds0 q0
    refine he.run _ _ _ _ _ _ tk S (Post.ofS hf S P fun d v Hs' H' e1 g1 k1 P1 => ?_)
    have S1 := S.grow g1
    split at P1
    · rename_i sc
      have rv := k1.rep
      cases q : m r with
      | stuck => rw [q] at P1; exact P1.elim
      | nx r' => rw [q] at P1; exact P1.elim
      | exc y r' => rw [q] at P1; exact P1.elim
      | rt kd r' =>
        rw [q] at P1
        dsimp only at P1
        split at P1
        · rename_i k qk
          split at P1
          · rename_i ds qd
            split at P1
            · rename_i hz
              obtain ⟨a, xs, ea, h1, r1, _⟩ := S1.mutK hk0 q0
              refine ⟨.ref a, ea, ?_⟩
              refine hb.run _ _ _ _ _ _ tk S1 ?_
              rw [q]
              intro vk Hs2 H2 S2
              obtain ⟨wk, A, ek, ok⟩ := StRel.get (i := 0) S2 rfl rfl
              have ek' : vk = wk := by simpa using ek
              subst ek'
              have rk : Rep E.cl Hs2 kd vk := by
                cases ok with
                | val r0 => exact r0
              have ev := keyOf_rb (H := H2) (.val rk) qk
              subst ev
              have S3 := S2.pop
              obtain ⟨a', xs', ea', h2, r2, up⟩ := S3.mutK hk qd
              rw [ea] at ea'
              cases ea'
              exact ⟨a, _, rfl, DPut.k h2 (by rw [szL_eq, r2.len]; exact hz), P1 _ _ _ (up _ _ (r2.put k (Rep.scal rv sc)))⟩
            · exact P1.elim
          · exact P1.elim
        · exact P1.elim
    · exact P1.elim
  · exact P.elim
end
end VL
end

noncomputable section
namespace VL
open PySem PySem.Spec PyProof.Rows L2

/-! ### lists of own things -/
section
variable {cl : Cl} {k : Kd} {Hs H Hs' H' H0 : Hp}
theorem RK.growA {d : D} {v : V} {A : List Addr} (fk : k.fine = true) (g : Grow Hs H Hs' H') (o : ORep cl (fun a => H0 a = none) H Hs H k d v A) (z : ∀ a ∈ A, Hs a = none ∧ H0 a = none) :
    ORep cl (fun a => H0 a = none) H' Hs' H' k d v A ∧ ∀ a ∈ A, Hs' a = none ∧ H0 a = none := by
  have hr := ORep.here _ _ _ _ o
  have e : ∀ a ∈ A, H' a = H a := fun a ha => by
    obtain ⟨u, e1, e2⟩ := hr a ha
    rw [e1, g.h.at a u e1 e2]
  refine ⟨ORep.anyB _ _ _ _ fk (ORep.mono (B' := H) g.s (Same.refl _) (fun _ q => q) _ _ _ _ e o), fun a ha => ⟨?_, (z a ha).2⟩⟩
  obtain ⟨u, e1, e2⟩ := hr a ha
  cases q : Hs' a with
  | none => rfl
  | some w =>
    rcases g.n a (by rw [q]; simp) with y | y
    · exact absurd (z a ha).1 y
    · rw [e1] at y; cases y
theorem RK.grow {d : D} {v : V} (fk : k.fine = true) (g : Grow Hs H Hs' H') (h : RK cl k H0 Hs H d v) : RK cl k H0 Hs' H' d v := by
  obtain ⟨A, o, nd, z⟩ := h
  obtain ⟨o2, z2⟩ := RK.growA fk g o z
  exact ⟨A, o2, nd, z2⟩
def RLs (cl : Cl) (k : Kd) (H0 Hs H : Hp) (ds : List D) (vs : List V) : Prop := ∃ As, OLs cl (fun a => H0 a = none) H Hs H k ds vs As ∧ As.Nodup ∧ ∀ a ∈ As, Hs a = none ∧ H0 a = none
theorem OLs.anyB {N : Addr → Prop} {B B' : Hp} (fk : k.fine = true) {ds : List D} {xs : List V} {As : List Addr} (h : OLs cl N B Hs H k ds xs As) : OLs cl N B' Hs H k ds xs As :=
  OLs.imp (fun _ => True) (fun _ _ _ => trivial) (fun _ _ _ => trivial) (fun d v A _ o => ORep.anyB k d v A fk o) trivial h
theorem OLs.keep {N : Addr → Prop} {B : Hp} {ds : List D} {xs : List V} {As : List Addr} (s : Same Hs Hs') (e : ∀ a ∈ As, H' a = H a) (h : OLs cl N B Hs H k ds xs As) : OLs cl N B Hs' H' k ds xs As :=
  OLs.imp (fun A => ∀ a ∈ A, H' a = H a) (fun _ _ t a ha => t a (List.mem_append_left _ ha)) (fun _ _ t a ha => t a (List.mem_append_right _ ha)) (fun d v A t o => ORep.mono s (Same.refl _) (fun _ q => q) k d v A t o) e h
theorem OLs.here {N : Addr → Prop} {B : Hp} {ds : List D} {xs : List V} {As : List Addr} (h : OLs cl N B Hs H k ds xs As) : ∀ a ∈ As, ∃ o, H a = some o ∧ NT o := OLs.all (fun d v A o => ORep.here k d v A o) h
theorem OLs.newN {N N' : Addr → Prop} {B B' : Hp} (fk : k.fine = true) {ds : List D} {xs : List V} {As : List Addr} (h : OLs cl N B Hs H k ds xs As) (z : ∀ a ∈ As, N' a) : OLs cl N' B' Hs H k ds xs As :=
  OLs.imp (fun A => ∀ a ∈ A, N' a) (fun _ _ t a ha => t a (List.mem_append_left _ ha)) (fun _ _ t a ha => t a (List.mem_append_right _ ha)) (fun d v A t o => ORep.renew k d v A fk t o) z h
theorem OLs.pos : ∀ {N : Addr → Prop} {B : Hp} {ds : List D} {xs : List V} {As : List Addr} (j : Nat) {d : D}, OLs cl N B Hs H k ds xs As → ds[j]? = some d →
    ∃ pre A post v, As = pre ++ (A ++ post) ∧ xs[j]? = some v ∧ ORep cl N B Hs H k d v A ∧
      ∀ Hs' H', Same Hs Hs' → (∀ a ∈ pre ++ post, H' a = H a) → ∀ d' v' A', ORep cl N B Hs' H' k d' v' A' → OLs cl N B Hs' H' k (ds.set j d') (xs.set j v') (pre ++ (A' ++ post))
  | _, _, _, _, _, j, _, .nil, e => by simp at e
  | _, _, _, _, _, 0, _, .cons (A := A) (As := As) o t, e => by
    simp at e
    subst e
    exact ⟨[], A, As, _, rfl, rfl, o, fun Hs' H' s q d' v' A' o' => .cons (A := A') (As := As) o' (OLs.keep s (fun a ha => q a ha) t)⟩
  | _, _, _, _, _, j + 1, _, .cons (A := A0) o t, e => by
    obtain ⟨pre, A, post, v, e1, e2, e3, e4⟩ := OLs.pos j t (by simpa using e)
    refine ⟨A0 ++ pre, A, post, v, by rw [e1, List.append_assoc], by simpa using e2, e3, fun Hs' H' s q d' v' A' o' => ?_⟩
    rw [List.append_assoc]
    exact .cons (ORep.mono s (Same.refl _) (fun _ z => z) _ _ _ _ (fun a ha => q a (List.mem_append_left _ (List.mem_append_left _ ha))) o)
      (e4 Hs' H' s (fun a ha => q a (by
        rcases List.mem_append.mp ha with z | z
        · exact List.mem_append_left _ (List.mem_append_right _ z)
        · exact List.mem_append_right _ z)) d' v' A' o')
theorem RLs.grow {ds : List D} {vs : List V} (fk : k.fine = true) (g : Grow Hs H Hs' H') (h : RLs cl k H0 Hs H ds vs) : RLs cl k H0 Hs' H' ds vs := by
  obtain ⟨A, o, nd, z⟩ := h
  have hr := o.here
  have e : ∀ a ∈ A, H' a = H a := fun a ha => by
    obtain ⟨u, e1, e2⟩ := hr a ha
    rw [e1, g.h.at a u e1 e2]
  refine ⟨A, (OLs.keep g.s e o).anyB fk, nd, fun a ha => ⟨?_, (z a ha).2⟩⟩
  obtain ⟨u, e1, e2⟩ := hr a ha
  cases q : Hs' a with
  | none => rfl
  | some w =>
    rcases g.n a (by rw [q]; simp) with y | y
    · exact absurd (z a ha).1 y
    · rw [e1] at y; cases y
def PostL (cl : Cl) (k : Kd) (Hs H : Hp) (Q : List V → Hp → Prop) (W : WX0) : R (List D) → Prop
  | .stuck => False
  | .exc x => ∀ c dd Hs' H', Grow Hs H Hs' H' → XRep cl Hs' H' x c dd → W c dd H'
  | .ok ds => ∀ vs Hs' H', Grow Hs H Hs' H' → RLs cl k H Hs' H' ds vs → Q vs H'
end
structure SLO (X : Cx) (E : En) (ks : List Kd) (k : Kd) (es : List Expr) (g : Sl → R (List D)) : Prop where
  run : ∀ (Hs H : Hp) (r : Sl) (σ : L2.St) (W : WX) (Q : List V → Hp → Prop), Takes X W → StRel E Hs H ks r σ → PostL E.cl k Hs H Q (fun c dd H' => W c dd σ H') (g r) → WAx X es σ H Q
section
variable {X : Cx} {E : En} {ks : List Kd} {k : Kd} {e : Expr} {es : List Expr} {g : Sl → R D} {t : Sl → R (List D)} {pos : Pos}
theorem so_nil : SLO X E ks k [] gNil := ⟨fun Hs H r σ W Q tk S P => wa_of pa_nil (P [] Hs H (Grow.refl S.sub) ⟨[], .nil, List.nodup_nil, fun a ha => nomatch ha⟩)⟩
theorem so_cons (he : SE X E ks k e g) (ht : SLO X E ks k es t) (fk : k.fine = true := by rfl) (hs : starEach (e :: es) X.env = (false, eval e X.env) :: starEach es X.env := by rfl) : SLO X E ks k (e :: es) (gCons g t) := by
  refine ⟨fun Hs H r σ W Q tk S P => ?_⟩
  refine wa_of (pa_cons pe_we pa_wa hs) ?_
  refine he.run _ _ _ _ _ _ tk S ?_
  unfold gCons at P
  cases q : g r with
  | stuck => rw [q] at P; exact P
  | exc x => rw [q] at P; exact P
  | ok d =>
    rw [q] at P
    intro v Hs1 H1 g1 k1
    refine ht.run _ _ _ _ _ _ tk (S.grow g1) ?_
    cases q2 : t r with
    | stuck => rw [q2] at P; exact P
    | exc x => rw [q2] at P; exact fun c dd Hs2 H2 g2 xr => P c dd Hs2 H2 (g1.trans g2) xr
    | ok ds =>
      rw [q2] at P
      intro vs Hs2 H2 g2 a2
      refine P _ Hs2 H2 (g1.trans g2) ?_
      obtain ⟨A, o1, nd, z1⟩ := k1
      obtain ⟨o, z⟩ := RK.growA fk g2 o1 z1
      obtain ⟨As, os, nds, zs⟩ := a2
      refine ⟨A ++ As, .cons o (os.newN fk fun a ha => g1.h.free (zs a ha).2), List.nodup_append.mpr ⟨nd, nds, fun a ha b hb w => ?_⟩, fun a ha => ?_⟩
      · obtain ⟨u, hu, nt⟩ := ORep.here _ _ _ _ o1 a ha
        rw [w, (zs b hb).2] at hu
        cases hu
      · rcases List.mem_append.mp ha with w | w
        · exact z a w
        · exact ⟨(zs a w).1, g1.h.free (zs a w).2⟩
/-- [e, ..], its items one's own -/
theorem se_lls (h : SLO X E ks k es t) (fk : k.fine = true := by rfl) : SE X E ks (.lls none k) (.List es pos) (gLst t) := by
  refine ⟨fun Hs H r σ W Q tk S P => ?_⟩
  refine we_of (pe_lst pa_wa) ?_
  refine h.run _ _ _ _ _ _ tk S ?_
  unfold gLst at P
  cases q : t r with
  | stuck => rw [q] at P; exact P
  | exc x => rw [q] at P; exact P
  | ok ds =>
    rw [q] at P
    intro vs Hs1 H1 g1 a1
    by_cases hz : ds.length ≤ szL
    · have P1 : Post E.cl (.lls none k) Hs H Q (fun c dd H' => W c dd σ H') (.ok (.lst ds)) := by
        have e : ((R.ok ds >>= fun ds => if ds.length ≤ szL then R.ok (D.lst ds) else .stuck) : R D) = .ok (.lst ds) := if_pos hz
        rw [← e]; exact P
      obtain ⟨As, os, nds, zs⟩ := a1
      refine ⟨by rw [szL_eq, os.length]; exact hz, fun p hp => ?_⟩
      have g2 := Grow.fresh (o := .lst vs) g1.sub hp
      have ne : ∀ a ∈ As, a ≠ p := fun a ha w => by
        obtain ⟨u, hu, _⟩ := os.here a ha
        rw [w, hp] at hu
        cases hu
      refine P1 (.ref p) Hs1 _ (g1.trans g2) ⟨p :: As, .lls ⟨g1.h.free hp, fun _ z => nomatch z⟩ upd_same ((OLs.keep (Same.refl _) (fun a ha => upd_ne (ne a ha)) os).anyB fk), List.nodup_cons.mpr ⟨fun w => ne p w rfl, nds⟩, fun a ha => ?_⟩
      rcases List.mem_cons.mp ha with w | w
      · rw [w]; exact ⟨g1.sub.free hp, g1.h.free hp⟩
      · exact zs a w
    · have e : ((R.ok ds >>= fun ds => if ds.length ≤ szL then R.ok (D.lst ds) else .stuck) : R D) = .stuck := if_neg hz
      have P2 : Post E.cl (.lls none k) Hs H Q (fun c dd H' => W c dd σ H') ((R.ok ds >>= fun ds => if ds.length ≤ szL then R.ok (D.lst ds) else .stuck) : R D) := P
      rw [e] at P2
      exact P2.elim
end

/-! ### lent for a plain answer -/
section
variable {X : Cx} {E : En} {Hs H : Hp} {ks : List Kd} {r : Sl} {σ : L2.St} {i : Nat} {k : Kd}
theorem StRel.freezeK (S : StRel E Hs H ks r σ) (hk : ks[i]? = some k) (fk : k.fine = true) : ∃ Hs2, Same Hs Hs2 ∧ StRel E Hs2 H (ks.set i .val) r σ := by
  obtain ⟨As, S⟩ := S
  cases hr : r[i]? with
  | none =>
    have l := S.sl.len
    have hi : i < ks.length := (List.getElem?_eq_some_iff.mp hk).1
    have : r.length ≤ i := List.getElem?_eq_none_iff.mp hr
    omega
  | some o =>
    obtain ⟨pre, A, post, e, q1, q2, q4, q3⟩ := S.sl.at_ i hk
    have e5 : r.set i o = r := by
      obtain ⟨h, e2⟩ := List.getElem?_eq_some_iff.mp hr
      rw [← e2, List.set_getElem_self]
    cases o with
    | none =>
      have l := S.sl.len
      have hi : i < σ.length := by rw [l.2]; exact (List.getElem?_eq_some_iff.mp hk).1
      have z := q4 .val σ[i]
      rw [e5, List.set_getElem_self] at z
      have sub : (pre ++ post).Sublist As := by
        rw [e]
        exact List.Sublist.append (List.Sublist.refl _) (List.sublist_append_right _ _)
      exact ⟨Hs, Same.refl _, _, z, S.nd.sublist sub, fun a ha => S.dis a (sub.subset ha), S.es, S.sub, S.eb, S.new, S.dom, S.tb⟩
    | some d =>
      obtain ⟨v, ev, o⟩ := q1 d hr
      have e3 : σ.set i (some v) = σ := by
        obtain ⟨h, e2⟩ := List.getElem?_eq_some_iff.mp ev
        rw [← e2, List.set_getElem_self]
      have nd := S.nd
      rw [e] at nd
      have nA : ∀ a ∈ A, E.h a = none := fun a ha => (ORep.dat _ _ _ _ o a ha).2
      have inA : ∀ a ∈ A, a ∈ As := fun a ha => by rw [e]; exact List.mem_append_right _ (List.mem_append_left _ ha)
      have pS : Same Hs (plus Hs H A) := plus_same fun a ha => (S.dis a (inA a ha)).1
      have rp : Rep E.cl (plus Hs H A) d v := ORep.freeze pS _ _ _ _ fk (fun a ha => by unfold plus; rw [if_pos ha]) o
      have z := q3 (plus Hs H A) H pS (fun _ _ => rfl) .val d v [] (.val rp)
      rw [e5, e3] at z
      have sub : (pre ++ ([] ++ post)).Sublist As := by
        rw [e]
        exact List.Sublist.append (List.Sublist.refl _) (by rw [List.nil_append]; exact List.sublist_append_right _ _)
      refine ⟨plus Hs H A, pS, _, z, S.nd.sublist sub, fun a ha => ⟨?_, (S.dis a (sub.subset ha)).2⟩, S.es.trans pS, plus_sub S.sub, S.eb, fun a q => ?_, S.dom, S.tb⟩
      · have hn : a ∉ A := fun w => by
          have ha' : a ∈ pre ++ post := by simpa using ha
          rcases List.mem_append.mp ha' with q | q
          · exact (List.nodup_append.mp nd).2.2 _ q _ (List.mem_append_left _ w) rfl
          · exact (List.nodup_append.mp (List.nodup_append.mp nd).2.1).2.2 _ w _ q rfl
        unfold plus
        rw [if_neg hn]
        exact (S.dis a (sub.subset ha)).1
      · unfold plus at q
        split at q
        · rename_i w
          exact .inr (nA a w)
        · exact S.new a q
@[simp] def gScal (g : Sl → R D) : Sl → R D := fun r => match g r with
  | .ok d => if d.scal then .ok d else .stuck
  | _ => .stuck
theorem se_scal {e : Expr} {g : Sl → R D} (he : SE X E (ks.set i .val) .val e g) (hk : ks[i]? = some k := by rfl) (fk : k.fine = true := by rfl) : SE X E ks .val e (gScal g) := by
  refine ⟨fun Hs H r σ W Q tk S P => ?_⟩
  obtain ⟨Hs2, s2, S2⟩ := S.freezeK hk fk
  refine he.run _ _ _ _ _ _ tk S2 ?_
  unfold gScal at P
  cases q : g r with
  | stuck => rw [q] at P; exact P.elim
  | exc x => rw [q] at P; exact P.elim
  | ok d =>
    rw [q] at P
    dsimp only at P
    intro v Hs' H' g1 k1
    split at P
    · rename_i sc
      exact P v Hs H' (Grow.same S.sub g1.h g1.t) (RK.val (Rep.scal k1.rep sc))
    · exact P.elim
/-- item j of an own list of own lists is changed where it lies -/
theorem StRel.lmut {n m : Option Addr} {ds : List D} (S : StRel E Hs H ks r σ) (hk : ks[i]? = some (.lls n (.own m))) (hd : r[i]? = some (some (.lst ds))) :
    ∃ a xs, σ[i]? = some (some (.ref a)) ∧ H a = some (.lst xs) ∧ xs.length = ds.length ∧ ∀ j es, ds[j]? = some (.lst es) → ∃ b ys, xs[j]? = some (.ref b) ∧ a ≠ b ∧ H b = some (.lst ys) ∧ RepL E.cl Hs es ys ∧
      ∀ es' ys', RepL E.cl Hs es' ys' → StRel E Hs (upd H b (.lst ys')) ks (r.set i (some (.lst (ds.set j (.lst es'))))) σ := by
  obtain ⟨u, Af, eu, o, nd, dz, sub, back⟩ := S.chg hk hd rfl
  cases o with
  | llV h0 h1 => cases h0
  | lls h0 h1 h2 =>
    rename_i a xs As
    refine ⟨a, xs, eu, h1, h2.length, fun j es he => ?_⟩
    obtain ⟨pre, A, post, v1, e1, e3, e4, e5⟩ := OLs.pos j h2 he
    cases e4 with
    | ownV q0 q1 => cases q0
    | ownL q0 q1 q2 =>
      rename_i b ys
      subst e1
      have nc := List.nodup_cons.mp nd
      have nb : a ≠ b := fun w => nc.1 (by rw [w]; simp)
      have hin : b ∈ a :: (pre ++ ([b] ++ post)) := by simp
      refine ⟨b, ys, e3, nb, q1, q2, fun es' ys' rp => ?_⟩
      have np : ∀ x ∈ pre ++ post, x ≠ b := fun x hx w => by
        have q := List.nodup_append.mp nc.2
        rcases List.mem_append.mp hx with z | z
        · exact q.2.2 x z b (by simp) w
        · have q' := List.nodup_append.mp q.2.1
          exact q'.2.2 b (by simp) x z w.symm
      have of' := e5 Hs (upd H b (.lst ys')) (Same.refl _) (fun x hx => upd_ne (np x hx)) (.lst es') (.ref b) [b] (.ownL q0 upd_same rp)
      rw [set_self e3] at of'
      have z := back Hs (upd H b (.lst ys')) (.lls n (.own m)) (.lst (ds.set j (.lst es'))) (a :: (pre ++ ([b] ++ post))) rfl (Grow.inside sub hin dz) (.lls h0 ((upd_ne nb).trans h1) of') nd fun x hx => ⟨dz x hx, sans_in hx⟩
      rw [set_self hk] at z
      exact z
end
section
variable {X : Cx} {E : En} {kr : Kd} {fin : List Kd → Prop} {ks : List Kd} {i j : Nat} {n m : Option Addr} {x y : Str} {e : Expr} {g : Sl → R D} {pos p1 p2 p3 p4 p5 p6 : Pos}
/-- x[c].append(e), c a written number -/
@[simp] def mEltApp (i c : Nat) (g : Sl → R D) : Sl → O := fun r => match r[i]? with
  | some (some (.lst ds)) => (match ds[c]? with
    | some (.lst es) => onR (g r) r fun d => if es.length < szL then .nx (r.set i (some (.lst (ds.set c (.lst (es ++ [d])))))) else .stuck
    | _ => .stuck)
  | _ => .stuck
theorem ss_eltApp {c l : Nat} (he : SE X E ks .val e g) (hq : NmOk x) (hf : fin ks := by trivial) (hk : ks[i]? = some (.lls n (.own m)) := by rfl) (hN : X.N[i]? = some x := by rfl) (hv : Vis X.env.scope x := by first | exact Or.inl rfl | exact Or.inr (Or.inl rfl) | exact Or.inr (Or.inr rfl))
    (hs : swapsWith (.Call (.Attribute (.Subscript (.Name x p1) (.Constant (.int (c : Nat)) l p4) p5) "append" p2) [e] [] p3) none pos.line X.env = pure false := by rfl)
    (hbase : attributeBase (.Subscript (.Name x p1) (.Constant (.int (c : Nat)) l p4) p5) "append" X.env (eval (.Subscript (.Name x p1) (.Constant (.int (c : Nat)) l p4) p5) X.env) = eval (.Subscript (.Name x p1) (.Constant (.int (c : Nat)) l p4) p5) X.env := by rfl)
    (hfew : ((backTo p3 (starEach [e] X.env)).all (fun x => !x.1) && (backToKw p3 (keywordEach [] X.env)).all (fun x => x.1.isSome)
      && decide ([e].length + ([] : List Keyword).length + (if ([] : List Keyword).isEmpty then 0 else 1) < 30)) = true := by rfl)
    (hline : (p2.endLine == p3.line) = true := by rfl) (hst : starEach [e] X.env = (false, eval e X.env) :: starEach [] X.env := by rfl) (hplain : (backTo p3 (starEach [] X.env)).any (·.1) = false := by rfl) :
    SS X E kr fin ks (.Expr (.Call (.Attribute (.Subscript (.Name x p1) (.Constant (.int (c : Nat)) l p4) p5) "append" p2) [e] [] p3) pos) (mEltApp i c g) ks := by
  refine ⟨fun Hs H r σ W Dn tk S P => ?_⟩
  refine ws_of (ps_expr (pe_bm PySem.F.plainAttrs_list PySem.F.slot_list_append PySem.F.type_list_append mt_append (pe_ix ix_list (pe_var hN hv hq.1 hq.2) pe_int (fun _ _ => rfl)) (pa_cons pe_we pa_nil hst) hbase hfew hline hst hplain) hs) ?_
  unfold mEltApp at P
  split at P
  · rename_i ds q
    obtain ⟨a, xs, ea, h1, hl, k1⟩ := S.lmut hk q
    split at P
    · rename_i es qe
      obtain ⟨b, ys, e1, nb, h2, r1, _⟩ := k1 c es qe
      refine ⟨.ref a, ea, a, xs, (c : Int), .ref b, rfl, rfl, SqL.of h1, atI_nat e1, tyV_lst h2, ?_⟩
      refine he.run _ _ _ _ _ _ tk S (Post.ofS hf S P fun d v Hs' H' _ g1 kk P1 => ?_)
      obtain ⟨a', xs', ea', h1', hl', k1'⟩ := (S.grow g1).lmut hk q
      rw [ea] at ea'
      cases ea'
      have z := g1.h.at _ _ h1
      rw [h1'] at z
      cases z
      obtain ⟨b', ys', e1', nb', h2', r1', up⟩ := k1' c es qe
      rw [e1] at e1'
      cases e1'
      split at P1
      · rename_i hz
        exact ⟨b, ys', v, rfl, rfl, h2', by rw [szL_eq, r1'.length]; exact hz, P1 _ _ _ (up _ _ (r1'.app (.cons kk.rep .nil)))⟩
      · exact P1.elim
    · exact P.elim
  · exact P.elim
/-- for y in x: y.append(e) -/
def forApp (i j : Nat) (g : Sl → R D) : Nat → Nat → Sl → O
  | 0, _, r => .nx r
  | n + 1, c, r => match (r.set j none)[i]? with
    | some (some (.lst ds)) => (match ds[c]? with
      | some (.lst es) => onR (g (r.set j none)) (r.set j none) fun d => if es.length < szL then forApp i j g n (c + 1) ((r.set j none).set i (some (.lst (ds.set c (.lst (es ++ [d])))))) else .stuck
      | _ => .stuck)
    | _ => .stuck
def mForApp (i j : Nat) (g : Sl → R D) : Sl → O := fun r => match r[i]? with
  | some (some (.lst ds)) => forApp i j g ds.length 0 r
  | _ => .stuck
theorem ss_forApp {kj : Kd} (hp : PassesOwn (model X.prog X.w) X.A X.env X.xe) (hc : X.calm = true) (he : SE X E ks .val e g) (hND : X.N.Nodup) (hq : NmOk x) (hqy : NmOk y) (hij : i ≠ j) (hf : fin ks := by trivial) (hk : ks[i]? = some (.lls n (.own m)) := by rfl) (hkj : ks[j]? = some kj := by rfl) (hN : X.N[i]? = some x := by rfl) (hv : Vis X.env.scope x := by first | exact Or.inl rfl | exact Or.inr (Or.inl rfl) | exact Or.inr (Or.inr rfl))
    (hNy : X.N[j]? = some y := by rfl) (hly : Loc X.env.scope y := by first | exact Or.inl rfl | exact Or.inr rfl) (hvy : Vis X.env.scope y := by first | exact Or.inl rfl | exact Or.inr (Or.inl rfl) | exact Or.inr (Or.inr rfl))
    (hs : swapsWith (.Call (.Attribute (.Name y p1) "append" p2) [e] [] p3) none p6.line X.env = pure false := by rfl)
    (hbase : attributeBase (.Name y p1) "append" X.env (eval (.Name y p1) X.env) = eval (.Name y p1) X.env := by rfl)
    (hfew : ((backTo p3 (starEach [e] X.env)).all (fun x => !x.1) && (backToKw p3 (keywordEach [] X.env)).all (fun x => x.1.isSome)
      && decide ([e].length + ([] : List Keyword).length + (if ([] : List Keyword).isEmpty then 0 else 1) < 30)) = true := by rfl)
    (hline : (p2.endLine == p3.line) = true := by rfl) (hst : starEach [e] X.env = (false, eval e X.env) :: starEach [] X.env := by rfl) (hplain : (backTo p3 (starEach [] X.env)).any (·.1) = false := by rfl)
    (hfs : ∀ z, foldedSetIterable (.Name x p5) X.env z = pure z := by intro _; rfl) (hfn : X.fn y = true ∨ X.env.scope.names.lookup y = some .local := by first | exact .inl rfl | exact .inr rfl | assumption) :
    SS X E kr fin ks (.For (.Name y p4) (.Name x p5) [.Expr (.Call (.Attribute (.Name y p1) "append" p2) [e] [] p3) p6] [] pos) (mForApp i j g) ks := by
  refine ⟨fun Hs H r σ W Dn tk S P => ?_⟩
  refine ws_of (ps_for hp hc (pi_list (pe_var hN hv hq.1 hq.2)) (pg_name hND hNy hly (hf := hfn)) (pss_one (ps_expr (pe_bm PySem.F.plainAttrs_list PySem.F.slot_list_append PySem.F.type_list_append mt_append (pe_var hNy hvy hqy.1 hqy.2) (pa_cons pe_we pa_nil hst) hbase hfew hline hst hplain) hs)) hfs) ?_
  unfold mForApp at P
  split at P
  · rename_i ds q
    obtain ⟨a, xs, ea, h1, hl, k1⟩ := S.lmut hk q
    refine ⟨.ref a, ea, a, rfl, ⟨xs, SqL.of h1⟩, ?_⟩
    refine ⟨fun c mm σ' H' => mm = ds.length - c ∧ c ≤ ds.length ∧ σ'[i]? = some (some (.ref a)) ∧ H' a = some (.lst xs) ∧ ∃ Hs' r' ds', StRel E Hs' H' ks r' σ' ∧ r'[i]? = some (some (.lst ds')) ∧ PostS E ks kr fin W Dn (forApp i j g (ds.length - c) c r'),
      ⟨ds.length, by simp, Nat.zero_le _, ea, h1, Hs, r, ds, S, q, P⟩, ?_⟩
    rintro c mm σ' H' ⟨rfl, hc', ea', h1', Hs', r', ds', S', q', P'⟩
    by_cases hlt : c < ds.length
    · obtain ⟨v0, hv0⟩ : ∃ v0, xs[c]? = some v0 := ⟨xs[c]'(by omega), by simp [hl, hlt]⟩
      refine .inr ⟨⟨xs, v0, SqL.of h1', hv0⟩, fun σ2 H2 => σ2[i]? = some (some (.ref a)) ∧ H2 a = some (.lst xs) ∧ ∃ Hs2 r2 ds2, StRel E Hs2 H2 ks r2 σ2 ∧ r2[i]? = some (some (.lst ds2)) ∧ PostS E ks kr fin W Dn (forApp i j g (ds.length - (c + 1)) (c + 1) r2), ?_, ?_⟩
      · rintro σ2 H2 ⟨z1, z2, Hs2, r2, ds2, z3, z4, z5⟩
        exact ⟨ds.length - (c + 1), by omega, rfl, hlt, z1, z2, Hs2, r2, ds2, z3, z4, z5⟩
      · rintro v H2 ⟨rfl, hy⟩
        have ev := hy xs (SqL.of h1')
        rw [hv0] at ev
        cases ev
        rw [show ds.length - c = (ds.length - (c + 1)) + 1 by omega] at P'
        unfold forApp at P'
        have S2 : StRel E Hs' H2 ks (r'.set j none) (σ'.set j (some v0)) := by
          have z := S'.wipe1 hkj (k' := kj) (some v0)
          rw [set_self hkj] at z
          exact z
        split at P'
        · rename_i ds2 q2
          have ed : ds2 = ds' := by
            rw [List.getElem?_set_ne hij.symm] at q2
            rw [q'] at q2
            cases q2
            rfl
          subst ed
          have ea2 : (σ'.set j (some v0))[i]? = some (some (.ref a)) := by rw [List.getElem?_set_ne hij.symm]; exact ea'
          split at P'
          · rename_i es qe
            obtain ⟨a3, xs3, ea3, h3, hl3, k3⟩ := S2.lmut hk q2
            rw [ea2] at ea3
            cases ea3
            rw [h1'] at h3
            cases h3
            obtain ⟨b, ys, e1, nb, h4, r1, _⟩ := k3 c es qe
            rw [hv0] at e1
            cases e1
            have hjl : j < σ'.length := by
              obtain ⟨As0, s0⟩ := S'
              rw [s0.sl.len.2]
              exact (List.getElem?_eq_some_iff.mp hkj).1
            refine ⟨.ref b, by rw [List.getElem?_set_self hjl], tyV_lst h4, ?_⟩
            refine he.run _ _ _ _ _ _ tk S2 (Post.ofS hf S2 P' fun d v2 Hs3 H3 _ g3 kk P1 => ?_)
            obtain ⟨a4, xs4, ea4, h5, hl4, k4⟩ := (S2.grow g3).lmut hk q2
            rw [ea2] at ea4
            cases ea4
            have z := g3.h.at _ _ h1'
            rw [h5] at z
            cases z
            obtain ⟨b', ys', e1', nb', h6, r2, up⟩ := k4 c es qe
            rw [hv0] at e1'
            cases e1'
            split at P1
            · rename_i hz
              refine ⟨b, ys', v2, rfl, rfl, h6, by rw [szL_eq, r2.length]; exact hz, ?_⟩
              have S5 := up _ _ (r2.app (.cons kk.rep .nil))
              have hil : i < (r'.set j none).length := (List.getElem?_eq_some_iff.mp q2).1
              exact ⟨ea2, by rw [upd_ne nb]; exact h5, Hs3, _, _, S5, List.getElem?_set_self hil, P1⟩
            · exact P1.elim
          · exact P'.elim
        · exact P'.elim
    · have e0 : ds.length - c = 0 := by omega
      rw [e0] at P'
      exact .inl ⟨⟨xs, SqL.of h1', by omega⟩, P' _ _ _ S'⟩
  · exact P.elim
end
end VL
end

noncomputable section
namespace VL
open PySem PySem.Spec PyProof.Rows L2

/-! ### a < b of lists, tuples -/
def rLtD (K : PySem.W.Frag) : R2 := fun x y H Q => ∃ d e, Dp K H x d ∧ Dp K H y e ∧ PySem.W.alike d e = true ∧ d ≠ .none ∧ d.depth ≤ 60 ∧ Q (.bl (PySem.W.dataLt d e)) H
theorem op_ltD {X : Cx} (hu : X.A.units + 65 < cLine) : OpR X (compareOp .Lt) (rLtD X.K) := by
  intro pins s σ H x y v u Q I rx ry h
  obtain ⟨d, e, hd, he, al, nn, dp, q⟩ := h
  obtain ⟨as, r1⟩ := Dp.reads I d x v hd rx
  obtain ⟨bs, r2⟩ := Dp.reads I e y u he ry
  exact PySem.W.lt_data r1 r2 al nn (by have := Nat.min_le_left d.depth e.depth; omega) ⟨.bl _, H, I, rfl, q⟩
def ltB (a b : D) : Bool := PySem.W.dataLt (toPy a) (toPy b)
def okLt (a b : D) : Bool := shp a && shp b && PySem.W.alike (toPy a) (toPy b) && decide ((toPy a).depth ≤ 60) && (match a with
  | .lst _ => true
  | .tup _ => true
  | .int _ => true
  | _ => false)
def dLtD : D → D → R D := fun a b => if okLt a b then .ok (.bl (ltB a b)) else .stuck
theorem nox_ltD : NoX dLtD := fun a b x h => by unfold dLtD at h; split at h <;> cases h
theorem opv_ltD {X : Cx} : OpV X.K (rLtD X.K) .val dLtD := by
  intro cl Hs H d1 d2 v1 v2 Q W e b1 b2 P nx
  unfold dLtD at P
  split at P
  · rename_i h
    unfold okLt at h
    simp only [Bool.and_eq_true, decide_eq_true_eq] at h
    obtain ⟨⟨⟨⟨h1, h2⟩, h3⟩, h4⟩, h5⟩ := h
    refine ⟨toPy d1, toPy d2, b1.dp e (SeqAt.canLay_of_shaped h1), b2.dp e (SeqAt.canLay_of_shaped h2), h3, fun z => ?_, h4, P.finV e (.bl _)⟩
    cases d1 <;> first | (cases h5; done) | cases z
  · exact P.elim

/-! ### sorted(xs) of any data that are alike -/
def leD : D → D → Bool := PySem.W.dataLe false toPy
def tup1 : D → Bool
  | .tup (_ :: _) => true
  | _ => false
def flat1 : D → Bool
  | .lst _ => true
  | .int _ => true
  | .str _ => true
  | _ => false
def okSort (ds : List D) : Bool := ds.all (fun a => shp a && decide ((toPy a).depth ≤ 60) && ds.all fun b => PySem.W.alike (toPy a) (toPy b)) && (ds.all tup1 || ds.all flat1)
def dSortD : D → R D
  | .lst ds => if okSort ds then .ok (.lst (ds.mergeSort leD)) else .stuck
  | _ => .stuck
def rSortD (K : PySem.W.Frag) : List V → Hp → VK → Prop := fun vs H Q => ∃ (a : Addr) (bs : List (V × D)), vs = [V.ref a] ∧ SqL K H a (bs.map (·.1)) ∧ (∀ b ∈ bs, Dp K H b.1 (toPy b.2) ∧ (toPy b.2).depth ≤ 60) ∧
  PySem.W.AllAlike (bs.map fun b => toPy b.2) ∧ PySem.W.Sortable (bs.map fun b => toPy b.2) ∧ ∀ p, H p = none → Q (.ref p) (upd H p (.lst ((bs.mergeSort (PySem.W.dataLe false fun b => toPy b.2)).map (·.1))))
section
variable {X : Cx}
theorem each_vals {pins : List (Addr × Obj)} {σ : L2.St} {H : Hp} {s : Shared} (I : Inv X pins σ H s) : ∀ {bs : List (V × D)} {its : List Value}, Vals (bs.map (·.1)) its → (∀ b ∈ bs, Dp X.K H b.1 (toPy b.2)) →
    PySem.W.EachIs (fun v (b : V × D) => RelV b.1 v) its bs ∧ PySem.W.EachIs (fun v (b : V × D) => ∃ as, Reads s.heap v (toPy b.2) as) its bs
  | [], _, .nil, _ => ⟨.nil, .nil⟩
  | b :: bs, _, .cons r t, h => by
    obtain ⟨i1, i2⟩ := each_vals I t fun c hc => h c (List.mem_cons_of_mem _ hc)
    exact ⟨.cons r i1, .cons (Dp.reads I _ _ _ (h b List.mem_cons_self) r) i2⟩
theorem each_back : ∀ {bs : List (V × D)} {out : List Value}, PySem.W.EachIs (fun v (b : V × D) => RelV b.1 v) out bs → Vals (bs.map (·.1)) out
  | _, _, .nil => .nil
  | _, _, .cons r t => .cons r (each_back t)
theorem cr_sortedD (hu : X.A.units + 65 < cLine) : CallR X (.builtin "sorted") (rSortD X.K) := by
  intro pins s σ H vs us Q I r h
  obtain ⟨a, bs, rfl, hs, hd, al, so, q⟩ := h
  obtain ⟨its, rv, hl, hz⟩ := I.list hs
  rw [Vals.ref1 r]
  obtain ⟨e1, e2⟩ := each_vals I rv fun b hb => (hd b hb).1
  refine PySem.W.sorted_data (bs := bs) (enc := fun b => toPy b.2) hl.isList e1 e2 al so (by rw [List.length_map] at hz; exact hz) (fun b hb => by have := (hd b hb).2; omega) fun out hlen hout => ?_
  obtain ⟨ep, he'⟩ := PyProof.Rows.sortedAll_at s.heap its out.toArray
  have hv := each_back hout
  have hz2 : ((bs.mergeSort (PySem.W.dataLe false fun b => toPy b.2)).map (·.1)).length ≤ sizeLine := by
    rw [List.length_map, List.length_mergeSort]
    rw [List.length_map] at hz
    exact hz
  exact ⟨.ref _, upd H (s.heap.objs.size + 1) (.lst ((bs.mergeSort (PySem.W.dataLe false fun b => toPy b.2)).map (·.1))), I.laid (t' := s.toks) (fun _ _ => PyProof.Rows.sortedAll_old) (Nat.le_succ _) ⟨hz2, out, ep, hv, he'⟩, rfl, q _ (I.hok.fresh (Nat.le_succ _))⟩
theorem RepL.zipV {cl : Cl} {H : Hp} : ∀ {ds : List D} {xs : List V}, RepL cl H ds xs → ∃ bs : List (V × D), bs.map (·.1) = xs ∧ bs.map (·.2) = ds ∧ ∀ b ∈ bs, Rep cl H b.2 b.1
  | [], _, h => by cases h; exact ⟨[], rfl, rfl, fun b hb => nomatch hb⟩
  | d :: ds, _, h => by
    cases h with
    | cons h1 h2 =>
      obtain ⟨bs, e1, e2, e3⟩ := RepL.zipV h2
      refine ⟨(_, d) :: bs, by rw [List.map_cons, e1], by rw [List.map_cons, e2], fun b hb => ?_⟩
      rcases List.mem_cons.mp hb with z | z
      · rw [z]; exact h1
      · exact e3 b z
theorem RepL.ofZip {cl : Cl} {H : Hp} : ∀ {bs : List (V × D)}, (∀ b ∈ bs, Rep cl H b.2 b.1) → RepL cl H (bs.map (·.2)) (bs.map (·.1))
  | [], _ => .nil
  | b :: bs, h => .cons (h b List.mem_cons_self) (RepL.ofZip fun c hc => h c (List.mem_cons_of_mem _ hc))
theorem se_sortedD {E : En} {ks : List Kd} {e : Expr} {g : Sl → R D} {p1 pos : Pos} (B : Bl X.mg) (hu : X.A.units + 65 < cLine) (he : SE X E ks .bor e g) (hg : Gl X "sorted" := by rfl)
    (hs : starEach [e] X.env = (false, eval e X.env) :: starEach [] X.env := by rfl) (hpl : (backTo pos (starEach [] X.env)).any (·.1) = false := by rfl) :
    SE X E ks (.own none) (.Call (.Name "sorted" p1) [e] [] pos) (gUn dSortD g) := by
  refine ⟨fun Hs H r σ W Q tk S P => ?_⟩
  refine we_of (pe_callB (cr_sortedD hu) hg B.sorted bb_sorted (pa_cons pe_we pa_nil hs) (by decide) (by decide) hs hpl) ?_
  refine he.run _ _ _ _ _ _ tk S (P.imp fun d v Hs1 H1 e1 g1 k1 P1 => ?_)
  unfold dSortD at P1
  cases d <;> first | exact P1.elim | skip
  rename_i ds
  dsimp only at P1
  split at P1
  · rename_i hk
    unfold okSort at hk
    rw [Bool.and_eq_true, List.all_eq_true] at hk
    obtain ⟨hk1, hk2⟩ := hk
    obtain ⟨a, xs, rfl, h1, r1⟩ := k1.rb.lstInv g1.sub
    obtain ⟨bs, b1, b2, b3⟩ := RepL.zipV r1
    subst b1
    subst b2
    have hb : ∀ b ∈ bs, shp b.2 = true ∧ (toPy b.2).depth ≤ 60 ∧ ∀ c ∈ bs, PySem.W.alike (toPy b.2) (toPy c.2) = true := fun b hb => by
      have := hk1 b.2 (List.mem_map.mpr ⟨b, hb, rfl⟩)
      simp only [Bool.and_eq_true, decide_eq_true_eq, List.all_eq_true] at this
      exact ⟨this.1.1, this.1.2, fun c hc => this.2 c.2 (List.mem_map.mpr ⟨c, hc, rfl⟩)⟩
    refine ⟨a, bs, rfl, SqL.of h1, fun b hb' => ⟨?_, (hb b hb').2.1⟩, ?_, ?_, fun p hp => ?_⟩
    · exact Rep.dp _ _ (SeqAt.canLay_of_shaped (hb b hb').1) (Rep.same g1.sub _ _ (b3 b hb'))
    · intro d hd d' hd'
      obtain ⟨b, h2, rfl⟩ := List.mem_map.mp hd
      obtain ⟨c, h3, rfl⟩ := List.mem_map.mp hd'
      exact (hb b h2).2.2 c h3
    · rw [Bool.or_eq_true, List.all_eq_true, List.all_eq_true] at hk2
      rcases hk2 with z | z
      · refine .inl fun d hd => ?_
        obtain ⟨b, h2, rfl⟩ := List.mem_map.mp hd
        have := z b.2 (List.mem_map.mpr ⟨b, h2, rfl⟩)
        cases q : b.2 <;> rw [q] at this <;> first | (cases this; done) | skip
        rename_i ys
        cases ys with
        | nil => cases this
        | cons y ys => exact ⟨_, _, rfl⟩
      · refine .inr fun d hd => ?_
        obtain ⟨b, h2, rfl⟩ := List.mem_map.mp hd
        have := z b.2 (List.mem_map.mpr ⟨b, h2, rfl⟩)
        cases q : b.2 <;> rw [q] at this <;> first | (cases this; done) | exact ⟨(by intro w; cases w), (by intro w u; cases u)⟩
    · have e2 : (bs.mergeSort (PySem.W.dataLe false fun b => toPy b.2)).map (·.2) = (bs.map (·.2)).mergeSort leD := List.map_mergeSort fun a _ b _ => rfl
      rw [← e2] at P1
      refine P1.finL g1.sub hp (RepL.ofZip fun b hb' => b3 b ?_)
      exact (List.mergeSort_perm bs _).mem_iff.mp hb'
  · exact P1.elim
end
end VL
end

noncomputable section
namespace VL
open PySem PySem.Spec PyProof.Rows L2

/-! ### texts: str(i), f'..', sep.join(xs), len(d) -/
@[simp] def fStr : List D → R D
  | [.int i] => if i.natAbs.log2 < 1920 then .ok (.str (toString i)) else .stuck
  | [.str x] => .ok (.str x)
  | _ => .stuck
@[simp] def dFmt : D → R D
  | .int i => if i.natAbs.log2 < 1920 then .ok (.str (toString i)) else .stuck
  | .str y => if y.length ≤ szL then .ok (.str y) else .stuck
  | _ => .stuck
@[simp] def gJoinS : List (Sl → R D) → Str → Sl → R D
  | [], acc, _ => .ok (.str acc)
  | g :: gs, acc, r => do
    let d ← g r
    match d with
      | .str y => if (acc ++ y).length ≤ szL then gJoinS gs (acc ++ y) r else .stuck
      | _ => .stuck
def strsOf : List D → Option (List Str)
  | [] => some []
  | .str x :: r => (strsOf r).map (x :: ·)
  | _ :: _ => none
theorem strsOf_eq : ∀ {ds : List D} {ns : List Str}, strsOf ds = some ns → ds = ns.map D.str
  | [], _, h => by cases h; rfl
  | d :: r, _, h => by
    cases d <;> first | cases h | skip
    rename_i i
    dsimp only [strsOf] at h
    cases q : strsOf r with
    | none => rw [q] at h; cases h
    | some ms =>
      rw [q] at h
      cases h
      rw [strsOf_eq q]
      rfl
theorem strsOf_map : ∀ ns : List Str, strsOf (ns.map D.str) = some ns
  | [] => rfl
  | n :: ns => by
    show (strsOf (ns.map D.str)).map _ = _
    rw [strsOf_map ns]
    rfl
theorem RepL.strs {cl : Cl} {H : Hp} {ns : List Str} : ∀ {vs : List V}, RepL cl H (ns.map D.str) vs → vs = ns.map V.str := by
  induction ns with
  | nil =>
    intro vs h
    cases h
    rfl
  | cons n ns ih =>
    intro vs h
    cases h with
    | cons h1 h2 =>
      cases h1
      rw [ih h2]
      rfl
def dJoin : D → D → R D
  | .str a, .lst ds => match strsOf ds with
    | some ys => if (ys.map (·.length)).sum + ys.length * a.length ≤ szL then .ok (.str (Txt.join a ys)) else .stuck
    | none => .stuck
  | _, _ => .stuck
@[simp] def gJoin (go g : Sl → R D) : Sl → R D := fun r => do
  let d ← go r
  match d with
    | .str a => (do
      let ds ← g r
      dJoin (.str a) ds)
    | _ => .stuck
@[simp] def fLenD : List D → R D
  | [.dct kvs] => .ok (.int (kvs.length : Nat))
  | _ => .stuck
section
variable {X : Cx} {E : En} {ks : List Kd} {e o : Expr} {g go : Sl → R D} {pos p apos cpos : Pos} {es : List Expr} {t : Sl → R (List D)}
theorem callv_str : CallV X.K (fun xs H Q => (∃ i, xs = [.int i] ∧ i.natAbs.log2 < 1920 ∧ Q (.str (toString i)) H) ∨ ∃ a, xs = [.str a] ∧ Q (.str a) H) .val [false] fStr := by
  intro cl Hs H ds vs Q W e a P
  obtain ⟨d, v, rfl, rfl, r⟩ := a.one
  cases d <;> first | exact P.elim | skip
  · rename_i i
    cases r.intInv
    dsimp only [fStr] at P
    split at P
    · rename_i h
      exact .inl ⟨_, rfl, h, P.finV e (.str _)⟩
    · exact P.elim
  · cases r.strInv
    exact .inr ⟨_, rfl, P.finV e (.str _)⟩
theorem se_fmt (he : SE X E ks .bor e g) : SE X E ks .val (.FormattedValue e (-1) none pos) (gUn dFmt g) := by
  refine ⟨fun Hs H r σ W Q tk S P => ?_⟩
  refine we_of (pe_fmt pe_we) ?_
  refine he.run _ _ _ _ _ _ tk S (P.imp fun d v Hs1 H1 e1 g1 k1 P1 => ?_)
  cases d <;> first | exact P1.elim | skip
  · rename_i i
    cases k1.rb.intInv
    dsimp only [dFmt] at P1
    split at P1
    · rename_i h
      exact .inr ⟨i, rfl, h, P1.finV g1.sub (.str _)⟩
    · exact P1.elim
  · rename_i x
    have z := k1.rb
    cases z.strInv
    dsimp only [dFmt] at P1
    split at P1
    · rename_i h
      exact .inl ⟨x, rfl, by rw [szL_eq]; exact h, P1.finV g1.sub (.str _)⟩
    · exact P1.elim
inductive SFs (X : Cx) (E : En) (ks : List Kd) : List Expr → List (Sl → R D) → Prop where
  | nil : SFs X E ks [] []
  | cons {e : Expr} {g : Sl → R D} {es : List Expr} {gs : List (Sl → R D)} (h : SE X E ks .val e g) (r : SFs X E ks es gs) : SFs X E ks (e :: es) (g :: gs)
theorem pj_we : ∀ es : List Expr, PJ X es (es.map (WEx X))
  | [] => .nil
  | _ :: es => .cons pe_we (pj_we es)
theorem sfs_run {gs : List (Sl → R D)} (h : SFs X E ks es gs) : ∀ (acc : Str) (Hs H : Hp) (r : Sl) (σ : L2.St) (W : WX) (Q : VK), Takes X W → StRel E Hs H ks r σ → Post E.cl .val Hs H Q (fun c dd H' => W c dd σ H') (gJoinS gs acc r) → tJs (es.map (WEx X)) acc σ H fun out H1 => Q (.str out) H1 := by
  induction h with
  | nil =>
    intro acc Hs H r σ W Q tk S P
    exact P.finV S.sub (.str acc)
  | @cons e g es gs he hr ih =>
    intro acc Hs H r σ W Q tk S P
    refine he.run _ _ _ _ _ _ tk S (P.imp fun d v Hs1 H1 e1 g1 k1 P1 => ?_)
    cases d <;> first | exact P1.elim | skip
    rename_i y
    have rp := k1.rep
    cases rp
    dsimp only at P1
    split at P1
    · rename_i hz
      exact ⟨y, rfl, by rw [szL_eq]; exact hz, ih (acc ++ y) Hs1 H1 r σ W Q tk (S.grow g1) P1⟩
    · exact P1.elim
theorem se_joined {v1 v2 : Expr} {rest : List Expr} {gs : List (Sl → R D)} (h : SFs X E ks (v1 :: v2 :: rest) gs) : SE X E ks .val (.JoinedStr (v1 :: v2 :: rest) pos) (gJoinS gs Str.empty) :=
  ⟨fun Hs H r σ W Q tk S P => we_of (pe_joined (pj_we _)) (sfs_run h Str.empty Hs H r σ W Q tk S P)⟩
theorem se_join (ho : SE X E ks .bor o go) (he : SE X E ks .bor e g) (hs : starEach [e] X.env = [(false, eval e X.env)] := by rfl) (hbase : attributeBase o "join" X.env (eval o X.env) = eval o X.env := by rfl) (hline : (apos.endLine == pos.line) = true := by rfl) :
    SE X E ks .val (.Call (.Attribute o "join" apos) [e] [] pos) (gJoin go g) := by
  refine ⟨fun Hs H r σ W Q tk S P => ?_⟩
  refine we_of (pe_join pe_we pe_we hs hbase hline) ?_
  refine ho.run _ _ _ _ _ _ tk S (P.imp fun d1 v1 Hs1 H1 e1 g1 k1 P1 => ?_)
  cases d1 <;> first | exact P1.elim | skip
  rename_i a
  cases k1.rb.strInv
  refine ⟨⟨a, rfl⟩, he.run _ _ _ _ _ _ tk (S.grow g1) (P1.imp fun d2 v2 Hs2 H2 e2 g2 k2 P2 => ?_)⟩
  unfold dJoin at P2
  cases d2 <;> first | exact P2.elim | skip
  dsimp only at P2
  split at P2
  · rename_i ys q
    split at P2
    · rename_i hz
      obtain ⟨b, xs, rfl, h1, r1⟩ := k2.rb.lstInv g2.sub
      rw [strsOf_eq q] at r1
      rw [r1.strs] at h1
      exact ⟨a, b, ys, rfl, rfl, .inl (SqL.of h1), by rw [szL_val] at hz; exact hz, P2.finV g2.sub (.str _)⟩
    · exact P2.elim
  · exact P2.elim
end
section
variable {X : Cx} {E : En} {ks : List Kd} {e o : Expr} {g go : Sl → R D} {pos p apos cpos : Pos} {es : List Expr} {t : Sl → R (List D)}
theorem sf_Str (B : Bl X.mg) (ha : SA X E ks [false] (e :: es) t) (hc : X.calm = true := by rfl) (hg : Gl X "str" := by rfl) (he : starEach (e :: es) X.env = (false, eval e X.env) :: starEach es X.env := by rfl) (hpl : (backTo pos (starEach es X.env)).any (·.1) = false := by rfl) : SE X E ks (.val) (.Call (.Name "str" p) (e :: es) [] pos) (gCall fStr t) :=
  se_callTy (call_str_int.or SkE.call_str_str) callv_str B.str bb_str ha hg bn_str bd_str he hpl
theorem callv_lenD : CallV X.K (fun xs H Q => ∃ a kvs, xs = [V.ref a] ∧ Rd H a (.dK kvs) ∧ Q (.int kvs.length) H) .val [false] fLenD := by
  intro cl Hs H ds vs Q W e a P
  obtain ⟨d, v, rfl, rfl, r⟩ := a.one
  cases d <;> first | exact P.elim | skip
  rename_i kvs
  obtain ⟨p, xs, rfl, h1, r1⟩ := r.dctInv e
  refine ⟨p, xs, rfl, h1, ?_⟩
  rw [r1.len]
  exact P.finV e (.int _)
theorem sf_LenD (B : Bl X.mg) (ha : SA X E ks [false] (e :: es) t) (hg : Gl X "len" := by rfl) (he : starEach (e :: es) X.env = (false, eval e X.env) :: starEach es X.env := by rfl) (hpl : (backTo pos (starEach es X.env)).any (·.1) = false := by rfl) : SE X E ks (.val) (.Call (.Name "len" p) (e :: es) [] pos) (gCall fLenD t) :=
  se_callB call_lenR callv_lenD B.len bb_len ha hg bn_len bd_len he hpl
end
end VL
end

noncomputable section
namespace VL
open PySem PySem.Spec PyProof.Rows L2

/-! ### for k in d: the dict is locked while the loop runs; d[k] may be read -/
def noXO : O → O
  | .exc _ _ => .stuck
  | o => o
theorem PostS.ofNoX {E : En} {ks : List Kd} {kr : Kd} {fin : List Kd → Prop} {W : WX} {Dn : Ends} {x : O} (P : PostS E ks kr fin W Dn (noXO x)) : PostS E ks kr fin W Dn x := by
  cases x with
  | exc z r => exact P.elim
  | stuck => exact P
  | nx r => exact P
  | rt d r => exact P
theorem tab_del {H : Hp} {a : Addr} {o : HO} (hD : H a = none) (P : Addr) (n1 : NT o) (n2 : ∀ c q, o ≠ LamX.CodeO c q) (z : LamX.TabS (upd H a o) P lamQ) : LamX.TabS H P lamQ := by
  obtain ⟨ps, h1, h2, h3⟩ := z
  have e : ∀ b u, upd H a o b = some u → u ≠ o → H b = some u := fun b u q n => by
    have : b ≠ a := fun w => by
      rw [w, upd_same] at q
      exact n (Option.some.inj q).symm
    rw [upd_ne this] at q
    exact q
  refine ⟨ps, e _ _ h1 fun w => n1 ps w.symm, h2, fun pos cv hc => ?_⟩
  obtain ⟨c, e1, e2⟩ := h3 pos cv hc
  exact ⟨c, e1, e _ _ e2 fun w => n2 c lamQ w.symm⟩
theorem nt_frz {o : Obj} {u : HO} : NT (.frz o u) := by intro _ z; cases z
theorem nc_frz {o : Obj} {u : HO} : ∀ c q, HO.frz o u ≠ LamX.CodeO c q := by intro _ _ z; unfold LamX.CodeO at z; cases z

/-! ### one dict's object exchanged: locked, opened -/
open Classical in
def sw (a : Addr) (u o : HO) (f : Hp) : Hp := fun b => if b = a ∧ f b = some u then some o else f b
section
variable {a : Addr} {u o : HO} {f g : Hp}
theorem sw_at (h : f a = some u) : sw a u o f a = some o := by unfold sw; rw [if_pos ⟨rfl, h⟩]
theorem sw_ne {b : Addr} (h : b ≠ a) : sw a u o f b = f b := by unfold sw; rw [if_neg fun z => h z.1]
theorem sw_no {b : Addr} (h : f b ≠ some u) : sw a u o f b = f b := by unfold sw; rw [if_neg fun z => h z.2]
theorem sw_none {b : Addr} : sw a u o f b = none ↔ f b = none := by
  unfold sw
  split
  · rename_i z
    rw [z.2]
    exact ⟨fun w => (nomatch w), fun w => (nomatch w)⟩
  · exact Iff.rfl
theorem sw_keep {b : Addr} {y : HO} (h : f b = some y) (n : y ≠ u) : sw a u o f b = some y := by
  rw [sw_no fun z => n (by rw [h] at z; exact Option.some.inj z)]
  exact h
theorem sw_back (h : f a ≠ some o) (n : u ≠ o) : sw a o u (sw a u o f) = f := by
  funext b
  by_cases c : b = a
  · subst c
    by_cases d : f b = some u
    · rw [sw_at (sw_at d), d]
    · rw [sw_no (u := u) d |> fun e => sw_no (f := sw b u o f) (u := o) (o := u) (by rw [e]; exact h), sw_no d]
  · rw [sw_ne c, sw_ne c]
theorem Same.sw (nt : NT u) (e : Same f g) : Same (sw a u o f) (sw a u o g) := ⟨fun b y q n => by
  by_cases c : b = a ∧ f b = some u
  · obtain ⟨rfl, c⟩ := c
    rw [sw_at c] at q
    rw [sw_at (e.at _ _ c nt)]
    exact q
  · have q2 : f b = some y := by
      unfold VL.sw at q
      rw [if_neg c] at q
      exact q
    have g2 : g b = some y := e.k b y q2 (n.imp id fun z => sw_none.mp z)
    by_cases d : b = a
    · subst d
      exact sw_keep g2 fun z => c ⟨rfl, by rw [q2, z]⟩
    · rw [sw_ne d]; exact g2⟩
theorem tab_sw {P : Addr} (nt : NT u) (nc : ∀ c q, u ≠ LamX.CodeO c q) (z : LamX.TabS f P lamQ) : LamX.TabS (VL.sw a u o f) P lamQ := by
  obtain ⟨ps, h1, h2, h3⟩ := z
  refine ⟨ps, sw_keep h1 fun w => nt ps w.symm, h2, fun pos cv hc => ?_⟩
  obtain ⟨c, e1, e2⟩ := h3 pos cv hc
  exact ⟨c, e1, sw_keep e2 fun w => nc c lamQ w.symm⟩
end
/-- open, locked -/
inductive Two (xs : List (Key × V)) : HO → HO → Prop
  | lock {od : Obj} : Two xs (.dK xs) (.frz od (.dK xs))
  | open_ {od : Obj} : Two xs (.frz od (.dK xs)) (.dK xs)
section
variable {a : Addr} {u o : HO} {xs : List (Key × V)} {cl : Cl} {H Hs B : Hp}
theorem Two.ntU (t : Two xs u o) : NT u := by cases t <;> (intro _ z; cases z)
theorem Two.nc (t : Two xs u o) : ∀ c q, u ≠ LamX.CodeO c q := by
  cases t <;> (intro _ _ z; unfold LamX.CodeO at z; cases z)
theorem Two.ne (t : Two xs u o) : u ≠ o := by cases t <;> (intro z; cases z)
theorem Two.lst (t : Two xs u o) (ys : List V) : HO.lst ys ≠ u := by cases t <;> (intro z; cases z)
theorem Two.tup (t : Two xs u o) (ys : List V) : HO.tup ys ≠ u := by cases t <;> (intro z; cases z)
theorem Two.ins (t : Two xs u o) (c dx : Addr) (ys : List (Str × V)) : HO.ins c dx ys ≠ u := by cases t <;> (intro z; cases z)
theorem Two.xd (t : Two xs u o) (ys : List (Str × V)) : HO.xd ys ≠ u := by cases t <;> (intro z; cases z)
theorem Two.rd (t : Two xs u o) {p : Addr} {ys : List (Key × V)} (h : Rd H p (.dK ys)) : Rd (sw a u o H) p (.dK ys) := by
  by_cases c : p = a ∧ H p = some u
  · obtain ⟨rfl, c⟩ := c
    have e := sw_at (o := o) c
    cases t with
    | lock =>
      rename_i od
      rcases h with h | ⟨o2, h⟩
      · rw [c] at h; cases h; exact .inr ⟨od, e⟩
      · rw [c] at h; cases h
    | open_ =>
      rcases h with h | ⟨o2, h⟩
      · rw [c] at h; cases h
      · rw [c] at h; cases h; exact .inl e
  · have e : sw a u o H p = H p := by unfold sw; rw [if_neg c]
    unfold Rd
    rw [e]
    exact h
theorem Two.seq (t : Two xs u o) {K : PySem.W.Frag} {p : Addr} {ys : List V} (h : SqL K H p ys) : SqL K (sw a u o H) p ys := by
  rcases h with (h | ⟨o2, h⟩) | h
  · exact .inl (.inl (sw_keep h (t.lst _)))
  · exact .inl (.inr ⟨o2, sw_keep h (by cases t <;> (intro z; cases z))⟩)
  · exact .inr h
mutual
theorem Rep.sw (t : Two xs u o) : ∀ (d : D) (v : V), Rep cl H d v → Rep cl (sw a u o H) d v
  | .non, _, h => by cases h; exact .non
  | .bl b, _, h => by cases h; exact .bl b
  | .int i, _, h => by cases h; exact .int i
  | .str x, _, h => by cases h; exact .str x
  | .lst ds, _, h => by
    cases h with
    | lst h1 h2 => exact .lst (sw_keep h1 (t.lst _)) (RepL.sw t ds _ h2)
  | .tup ds, _, h => by
    cases h with
    | tup h1 h2 => exact .tup (sw_keep h1 (t.tup _)) (RepL.sw t ds _ h2)
  | .dct ds, _, h => by
    cases h with
    | dct h1 h2 => exact .dct (t.rd h1) (RepK.sw t ds _ h2)
  | .obj C ds, _, h => by
    cases h with
    | obj h0 h1 h2 => exact .obj h0 (sw_keep h1 (t.ins _ _ _)) (RepF.sw t ds _ h2)
  | .scr ns, _, h => by
    cases h with
    | scr h1 => exact .scr (t.seq h1)
theorem RepL.sw (t : Two xs u o) : ∀ (ds : List D) (vs : List V), RepL cl H ds vs → RepL cl (sw a u o H) ds vs
  | [], _, h => by cases h; exact .nil
  | d :: ds, _, h => by
    cases h with
    | cons h1 h2 => exact .cons (Rep.sw t d _ h1) (RepL.sw t ds _ h2)
theorem RepK.sw (t : Two xs u o) : ∀ (ds : List (Key × D)) (vs : List (Key × V)), RepK cl H ds vs → RepK cl (sw a u o H) ds vs
  | [], _, h => by cases h; exact .nil
  | (k, d) :: ds, _, h => by
    cases h with
    | cons h1 h2 => exact .cons (Rep.sw t d _ h1) (RepK.sw t ds _ h2)
theorem RepF.sw (t : Two xs u o) : ∀ (ds : List (Str × D)) (vs : List (Str × V)), RepF cl H ds vs → RepF cl (sw a u o H) ds vs
  | [], _, h => by cases h; exact .nil
  | (k, d) :: ds, _, h => by
    cases h with
    | cons h1 h2 => exact .cons (Rep.sw t d _ h1) (RepF.sw t ds _ h2)
end
mutual
theorem RB.sw (t : Two xs u o) : ∀ {d : D} {v : V}, RB cl Hs B d v → RB cl (sw a u o Hs) (sw a u o B) d v
  | _, _, .val r => .val (Rep.sw t _ _ r)
  | _, _, .lst h1 h2 => .lst (sw_keep h1 (t.lst _)) (RepL.sw t _ _ h2)
  | _, _, .dct h1 h2 => .dct (t.rd h1) (RepK.sw t _ _ h2)
  | _, _, .obj h0 h1 h2 => .obj h0 (sw_keep h1 (t.ins _ _ _)) (RBF.sw t h2)
theorem RBF.sw (t : Two xs u o) : ∀ {ds : List (Str × D)} {vs : List (Str × V)}, RBF cl Hs B ds vs → RBF cl (sw a u o Hs) (sw a u o B) ds vs
  | _, _, .nil => .nil
  | _, _, .cons x y => .cons (RB.sw t x) (RBF.sw t y)
end
variable {N : Addr → Prop}
mutual
theorem ORep.sw (t : Two xs u o) : ∀ (k : Kd) (d : D) (v : V) (A : List Addr), (∀ b ∈ A, b ≠ a) → ORep cl N B Hs H k d v A → ORep cl N (sw a u o B) (sw a u o Hs) (sw a u o H) k d v A
  | .val, d, v, _, _, h => by
    cases h with
    | val h1 => exact .val (Rep.sw t _ _ h1)
  | .bor, d, v, _, _, h => by
    cases h with
    | borV h1 => exact .borV (Rep.sw t _ _ h1)
    | borL h1 h2 => exact .borL (sw_keep h1 (t.lst _)) (RepL.sw t _ _ h2)
    | borK h1 h2 => exact .borK (t.rd h1) (RepK.sw t _ _ h2)
    | borO h0 h1 h2 => exact .borO h0 (sw_keep h1 (t.ins _ _ _)) (RBF.sw t h2)
  | .own n, d, v, _, k, h => by
    cases h with
    | ownL h0 h1 h2 => exact .ownL h0 (sw_keep h1 (t.lst _)) (RepL.sw t _ _ h2)
    | ownK h0 h1 h2 => exact .ownK h0 (by rw [sw_ne (k _ List.mem_cons_self)]; exact h1) (RepK.sw t _ _ h2)
    | ownV h0 h1 => exact .ownV h0 (Rep.sw t _ _ h1)
  | .obj n ks, d, v, _, k, h => by
    cases h with
    | obj h0 h1 h2 h3 => exact .obj h0 h1 (sw_keep h2 (t.ins _ _ _)) (OFs.sw t ks _ _ _ (fun b hb => k b (List.mem_cons_of_mem _ hb)) h3)
  | .adr p, d, v, _, _, h => by
    cases h with
    | adr => exact .adr
  | .lls n kd, d, v, _, k, h => by
    cases h with
    | lls h0 h1 h2 => exact .lls h0 (sw_keep h1 (t.lst _)) (OLs.imp (fun A => ∀ b ∈ A, b ≠ a) (fun _ _ t b hb => t b (List.mem_append_left _ hb)) (fun _ _ t b hb => t b (List.mem_append_right _ hb)) (fun d v A q r => ORep.sw t kd d v A q r) (fun b hb => k b (List.mem_cons_of_mem _ hb)) h2)
    | llT h0 h1 h2 => exact .llT h0 (sw_keep h1 (t.tup _)) (OLs.imp (fun A => ∀ b ∈ A, b ≠ a) (fun _ _ t b hb => t b (List.mem_append_left _ hb)) (fun _ _ t b hb => t b (List.mem_append_right _ hb)) (fun d v A q r => ORep.sw t kd d v A q r) (fun b hb => k b (List.mem_cons_of_mem _ hb)) h2)
    | llV h0 h1 => exact .llV h0 (Rep.sw t _ _ h1)
theorem OFs.sw (t : Two xs u o) : ∀ (ks : List (Str × Kd)) (ds : List (Str × D)) (vs : List (Str × V)) (A : List Addr), (∀ b ∈ A, b ≠ a) → OFs cl N B Hs H ks ds vs A → OFs cl N (sw a u o B) (sw a u o Hs) (sw a u o H) ks ds vs A
  | [], _, _, _, _, h => by cases h; exact .nil
  | (f, kd) :: ks, _, _, _, k, h => by
    cases h with
    | cons h1 h2 => exact .cons (ORep.sw t kd _ _ _ (fun b hb => k b (List.mem_append_left _ hb)) h1) (OFs.sw t ks _ _ _ (fun b hb => k b (List.mem_append_right _ hb)) h2)
end
end
/-- the entry, a dict's object exchanged -/
def En.sw (E : En) (a : Addr) (u o : HO) : En := ⟨E.cl, E.h, VL.sw a u o E.s, VL.sw a u o E.b⟩
section
variable {E : En} {Hs H : Hp} {ks : List Kd} {r : Sl} {σ : L2.St} {a : Addr} {u o : HO} {xs : List (Key × V)}
theorem Slots.sw (t : Two xs u o) : ∀ {ks : List Kd} {r : Sl} {σ : L2.St} {As : List Addr}, (∀ b ∈ As, b ≠ a) → Slots E Hs H ks r σ As → Slots (E.sw a u o) (VL.sw a u o Hs) (VL.sw a u o H) ks r σ As
  | _, _, _, _, _, .nil => .nil
  | _, _, _, _, k, .skip h => .skip (Slots.sw t k h)
  | _, _, _, _, k, .cons h1 h2 => .cons (ORep.sw t _ _ _ _ (fun b hb => k b (List.mem_append_left _ hb)) h1) (Slots.sw t (fun b hb => k b (List.mem_append_right _ hb)) h2)
theorem StRel.sw (t : Two xs u o) (ha : Hs a ≠ none) (S : StRel E Hs H ks r σ) : StRel (E.sw a u o) (VL.sw a u o Hs) (VL.sw a u o H) ks r σ := by
  obtain ⟨As, S⟩ := S
  have off : ∀ b ∈ As, b ≠ a := fun b hb z => ha (by rw [← z]; exact (S.dis b hb).1)
  exact ⟨As, Slots.sw t off S.sl, S.nd, fun b hb => ⟨sw_none.mpr (S.dis b hb).1, (sw_none (a := a) (u := u) (o := o) (f := E.b)).mpr (S.dis b hb).2⟩, S.es.sw t.ntU, S.sub.sw t.ntU, S.eb.sw t.ntU,
    fun b z => (S.new b (fun w => z (sw_none.mpr w))).imp (fun w q => w ((sw_none (a := a) (u := u) (o := o) (f := E.s)).mp q)) id, fun b z => S.dom b (sw_none.mp z), fun P z => tab_sw t.ntU t.nc (S.tb P z)⟩
/-- locked: the stable dict at a -/
theorem StRel.lockV {od : Obj} (S : StRel E Hs H ks r σ) (ha : Hs a = some (.dK xs)) : StRel ((E.at_ Hs).sw a (.dK xs) (.frz od (.dK xs))) (VL.sw a (.dK xs) (.frz od (.dK xs)) Hs) (upd H a (.frz od (.dK xs))) ks r σ := by
  have z := StRel.sw (o := .frz od (.dK xs)) .lock (a := a) (by rw [ha]; simp) S.down
  have e : VL.sw a (.dK xs) (.frz od (.dK xs)) H = upd H a (.frz od (.dK xs)) := by
    funext b
    by_cases c : b = a
    · subst c
      rw [sw_at (S.sub.at _ _ ha), upd_same]
    · rw [sw_ne c, upd_ne c]
  rw [e] at z
  exact z
/-- opened again -/
theorem StRel.openV {od : Obj} {Hs2 H2 : Hp} {k2 : List Kd} {r2 : Sl} {σ2 : L2.St} (S : StRel E Hs H ks r σ) (ha : Hs a = some (.dK xs)) (S2 : StRel ((E.at_ Hs).sw a (.dK xs) (.frz od (.dK xs))) Hs2 H2 k2 r2 σ2) :
    H2 a = some (.frz od (.dK xs)) ∧ Hs2 a = some (.frz od (.dK xs)) ∧ StRel E (VL.sw a (.frz od (.dK xs)) (.dK xs) Hs2) (upd H2 a (.dK xs)) k2 r2 σ2 := by
  have F := S.facts
  have F2 := S2.facts
  have e0 : VL.sw a (.dK xs) (.frz od (.dK xs)) Hs a = some (.frz od (.dK xs)) := sw_at ha
  have eS : Hs2 a = some (.frz od (.dK xs)) := F2.1.at _ _ e0
  have eH : H2 a = some (.frz od (.dK xs)) := S2.sub.at _ _ eS
  refine ⟨eH, eS, ?_⟩
  have z := StRel.sw (u := .frz od (.dK xs)) (o := .dK xs) .open_ (a := a) (by rw [eS]; simp) S2
  have e : VL.sw a (.frz od (.dK xs)) (.dK xs) H2 = upd H2 a (.dK xs) := by
    funext b
    by_cases c : b = a
    · subst c
      rw [sw_at eH, upd_same]
    · rw [sw_ne c, upd_ne c]
  rw [e] at z
  have hb : E.b a ≠ some (.frz od (.dK xs)) := fun q => by
    have w := F.2.1.at _ _ q
    rw [S.sub.at _ _ ha] at w
    cases w
  have b1 : VL.sw a (.frz od (.dK xs)) (.dK xs) (VL.sw a (.dK xs) (.frz od (.dK xs)) Hs) = Hs := sw_back (by rw [ha]; simp) (by simp)
  have b2 : VL.sw a (.frz od (.dK xs)) (.dK xs) (VL.sw a (.dK xs) (.frz od (.dK xs)) E.b) = E.b := sw_back hb (by simp)
  have eE : ((E.at_ Hs).sw a (.dK xs) (.frz od (.dK xs))).sw a (.frz od (.dK xs)) (.dK xs) = E.at_ Hs := by
    show En.mk E.cl E.h (VL.sw a _ _ (VL.sw a _ _ Hs)) (VL.sw a _ _ (VL.sw a _ _ E.b)) = En.mk E.cl E.h Hs E.b
    rw [b1, b2]
  rw [eE] at z
  exact z.up F.1 F.2.2.1
end

/-! ### for k in d, d a stable dict -/
def mForKV (i : Nat) (t : Tg) (mb : Sl → O) : Sl → O := fun r => match r[i]? with
  | some (some (.dct ds)) => if ds.length ≤ szL then noXO (forL t (fun r => noXO (mb r)) (ds.map fun p => keyD p.1) r) else .stuck
  | _ => .stuck
section
variable {X : Cx} {E : En} {kr : Kd} {ks : List Kd} {pos p1 : Pos} {i : Nat} {x : Str}
theorem ss_forKV {fin : List Kd → Prop} {tg : Expr} {body : List Stmt} {t : Tg} {mb : Sl → O} {k1 : List Kd} (hp : PassesOwn (model X.prog X.w) X.A X.env X.xe) (hc : X.calm = true) (hg : SG X tg t) (hq : NmOk x)
    (hb : ∀ (s bb : Hp), SB X ⟨E.cl, E.h, s, bb⟩ kr fin k1 body mb k1)
    (hl : ∀ j ∈ t.is, j < ks.length) (hk : ks[i]? = some .val := by rfl) (hN : X.N[i]? = some x := by rfl) (hv : Vis X.env.scope x := by first | exact Or.inl rfl | exact Or.inr (Or.inl rfl) | exact Or.inr (Or.inr rfl)) (hk1 : k1 = ks := by rfl) (hks : setK ks t.is = ks := by rfl)
    (hs : ∀ z, foldedSetIterable (.Name x p1) X.env z = pure z := by intro _; rfl) : SS X E kr fin ks (.For tg (.Name x p1) body [] pos) (mForKV i t mb) ks := by
  subst hk1
  refine ⟨fun Hs H r σ W Dn tk S P => ?_⟩
  unfold mForKV at P
  split at P
  · rename_i ds q
    split at P
    · rename_i hz
      obtain ⟨w, A, ea, ow⟩ := S.get hk q
      cases ow with
      | val rp =>
      cases rp with
      | dct hrd r1 =>
      rename_i a xs
      -- the loop in any world where the dict is locked
      have loop : ∀ (E2 : En) (Hs0 H0 : Hp) (od : Obj) (Dl : Ends), E2.cl = E.cl → E2.h = E.h → Hs0 a = some (.frz od (.dK xs)) → RepK E.cl Hs0 ds xs → E2.s = Hs0 → StRel E2 Hs0 H0 k1 r σ →
          PostS E2 k1 kr fin W Dl (noXO (forL t (fun r => noXO (mb r)) (ds.map fun p => keyD p.1) r)) →
          ∃ Wn : Nat → Nat → L2.St → Hp → Prop, (∃ m, Wn 0 m σ H0) ∧ ∀ i m σ H, Wn i m σ H → ((Itk a od xs).stop i H ∧ Dl.nx σ H) ∨ ((Itk a od xs).go i H ∧ ∃ N : L2.St → Hp → Prop, (∀ σ' H', N σ' H' → ∃ m', m' < m ∧ Wn (i + 1) m' σ' H') ∧
            ∀ y H2, (Itk a od xs).yld i H y H2 → WGx X tg y σ H2 fun σ2 H2 => WSs X body ⟨N, Dl.rt, Dl.nx, N⟩ σ2 H2) := by
        intro E2 Hs0 H0 od Dl ecl eh eH0 rk es S1 P1
        have P1 := P1.ofNoX
        refine ⟨fun j m σ' H' => m = ds.length - j ∧ j ≤ ds.length ∧ ∃ Hs' r', StRel E2 Hs' H' k1 r' σ' ∧ PostS E2 k1 kr fin W Dl (forL t (fun r => noXO (mb r)) ((ds.map fun p => keyD p.1).drop j) r'),
          ⟨ds.length, by simp, Nat.zero_le _, Hs0, _, S1, by simpa using P1⟩, ?_⟩
        rintro j m σ' H' ⟨rfl, hj, Hs', r', S', P'⟩
        have fs := S'.facts
        have ha : H' a = some (.frz od (.dK xs)) := S'.sub.at _ _ (fs.1.at _ _ (by rw [es]; exact eH0))
        have hlen : ds.length = xs.length := rk.len.symm
        by_cases hlt : j < ds.length
        · refine .inr ⟨⟨ha, by omega⟩, fun σ2 H2 => ∃ Hs2 r2, StRel E2 Hs2 H2 k1 r2 σ2 ∧ PostS E2 k1 kr fin W Dl (forL t (fun r => noXO (mb r)) ((ds.map fun p => keyD p.1).drop (j + 1)) r2), ?_, ?_⟩
          · rintro σ2 H2 ⟨Hs2, r2, z1, z2⟩
            exact ⟨ds.length - (j + 1), by omega, rfl, hlt, Hs2, r2, z1, z2⟩
          · intro y H2 yl
            obtain ⟨rfl, k, v, hx, rfl⟩ := yl
            have hlt2 : j < (ds.map fun p => keyD p.1).length := by rw [List.length_map]; exact hlt
            rw [List.drop_eq_getElem_cons hlt2] at P'
            dsimp only [forL] at P'
            have hkey : (ds.map fun p => keyD p.1)[j] = keyD k := by
              obtain ⟨v2, e4, _⟩ := rk.get (show ds[j]? = some ds[j] from by simp [hlt])
              rw [hx] at e4
              rw [List.getElem_map]
              exact congrArg keyD (congrArg Prod.fst (Option.some.inj e4)).symm
            rw [hkey] at P'
            cases q3 : t.un (keyD k) with
            | stuck => rw [q3] at P'; exact P'.elim
            | exc z => rw [q3] at P'; exact P'.elim
            | ok ys =>
              rw [q3] at P'
              dsimp only at P'
              refine hg.run E2.cl Hs' H2 _ _ _ ys _ S'.sub (keyRep k) q3 fun vs ry => ?_
              have S3 := StRel.puts S' hl (Tg.un_len q3) ry
              rw [hks] at S3
              have eE : E2 = ⟨E.cl, E.h, E2.s, E2.b⟩ := by rw [← ecl, ← eh]
              have sb := hb E2.s E2.b
              rw [← eE] at sb
              refine sb.run _ _ _ _ W _ tk S3 (PostS.ofNoX ?_)
              cases q2 : noXO (mb (setD r' t.is ys)) with
              | stuck => rw [q2] at P'; exact P'
              | exc z r2 => rw [q2] at P'; exact P'
              | rt d r2 => rw [q2] at P'; exact P'
              | nx r2 =>
                rw [q2] at P'
                exact fun Hs4 H4 σ4 S4 => ⟨Hs4, r2, S4, P'⟩
        · have ej : j = ds.length := by omega
          subst ej
          have hd0 : (ds.map fun p => keyD p.1).drop ds.length = [] := List.drop_eq_nil_of_le (by rw [List.length_map]; exact Nat.le_refl _)
          rw [hd0] at P'
          dsimp only [forL] at P'
          exact .inl ⟨⟨ha, by omega⟩, P' Hs' H' σ' S'⟩
      rcases hrd with hrd | ⟨od, hrd⟩
      · refine ws_of (ps_lock (ps_for hp hc (pi_keys (pe_var hN hv hq.1 hq.2)) pg_wg pss_ws hs)) ?_
        refine ⟨a, .dK xs, S.sub.at _ _ hrd, trivial, fun od => ?_⟩
        obtain ⟨Dl, eDl⟩ : ∃ Dl : Ends, Dl = ⟨fun σ' H' => H' a = some (.frz od (.dK xs)) ∧ Dn.nx σ' (upd H' a (.dK xs)), fun v H' => H' a = some (.frz od (.dK xs)) ∧ Dn.rt v (upd H' a (.dK xs)), fun σ' H' => H' a = some (.frz od (.dK xs)) ∧ Dn.bk σ' (upd H' a (.dK xs)), fun σ' H' => H' a = some (.frz od (.dK xs)) ∧ Dn.ct σ' (upd H' a (.dK xs))⟩ := ⟨_, rfl⟩
        rw [← eDl]
        refine ⟨.ref a, ea, a, od, rfl, .inl ⟨xs, upd_same, ?_⟩⟩
        refine loop ((E.at_ Hs).sw a (.dK xs) (.frz od (.dK xs))) _ _ od Dl rfl rfl (sw_at hrd) (RepK.sw .lock _ _ r1) rfl (S.lockV hrd) ?_
        · generalize forL t (fun r => noXO (mb r)) (ds.map fun p => keyD p.1) r = oo at P ⊢
          cases oo with
          | stuck => exact P.elim
          | exc z r2 => exact P.elim
          | rt d r2 =>
            intro Hs2 H2 σ2 v ks2 fz S2
            obtain ⟨z1, _, z2⟩ := S.openV hrd S2
            rw [eDl]
            exact ⟨z1, P _ _ σ2 v ks2 fz z2⟩
          | nx r2 =>
            intro Hs2 H2 σ2 S2
            obtain ⟨z1, _, z2⟩ := S.openV hrd S2
            rw [eDl]
            exact ⟨z1, P _ _ σ2 z2⟩
      · refine ws_of (ps_for hp hc (pi_keys (pe_var hN hv hq.1 hq.2)) pg_wg pss_ws hs) ?_
        refine ⟨.ref a, ea, a, od, rfl, .inl ⟨xs, S.sub.at _ _ hrd, ?_⟩⟩
        have F := S.facts
        refine loop (E.at_ Hs) Hs H od Dn rfl rfl hrd r1 rfl S.down ?_
        · generalize forL t (fun r => noXO (mb r)) (ds.map fun p => keyD p.1) r = oo at P ⊢
          cases oo with
          | stuck => exact P.elim
          | exc z r2 => exact P.elim
          | rt d r2 => exact fun Hs2 H2 σ2 v ks2 fz S2 => P Hs2 H2 σ2 v ks2 fz (S2.up F.1 F.2.2.1)
          | nx r2 => exact fun Hs2 H2 σ2 S2 => P Hs2 H2 σ2 (S2.up F.1 F.2.2.1)
    · exact P.elim
  · exact P.elim
end
end VL
end

noncomputable section
namespace VL
open PySem PySem.Spec PyProof.Rows L2

/-! ### list(range(a, b)) of any places (turned from the library's proof for small ranges) -/
section
variable {prog : Program} {w : World} {A : Around} {E : Value → Shared → Prop} {s : Shared}
theorem wpAny_extend_rangeL {R : Result → Shared → Prop} {r : Addr} {a b c : Int} {t u v : Tok} {n : Nat} (hh : A.handled = none) (hr : IsRange s.heap r a b c t u v) (hbig : Builtin.Range.small a b c = false)
    (hn : Builtin.Range.rangeSize a b c = n) (hlen : n ≤ 2 ^ 24) (S : Addr) (res : Value) (c₀ : Nat) (hS : s.heap.get? S = some { cls := .type "list", data := .seq #[] c₀ })
    (hR : ∀ h' tk acc' c', (∀ b o, b ≠ S → s.heap.get? b = some o → h'.get? b = some o) → h'.get? S = some { cls := .type "list", dict := none, data := .seq acc' c', slots := #[] } →
      ItemsOf (fun i v => ∃ t, v = .int (a + i * c) t) acc' n → R (.ok (.ret res)) { s with heap := h', toks := tk }) :
    wpAny (model prog w) A.in1 (Builtin.List.listExtendWith (.ref S) (.ref r) res)
      (fun fin s' => match fin with | .done f => R (.ok f) s' | .again c' => c'.quiet = true ∧ codeAny (model prog w) A c' R s') (fun e s' => R (.error e) s') s := by
  have hSr : S ≠ r := fun e => by rw [e, hr] at hS; simp at hS
  have hSlt : S < s.heap.objs.size := Heap.lt_size hS
  have hSI : S ≠ s.heap.objs.size := Nat.ne_of_lt hSlt
  have hSf : S ∉ [s.heap.objs.size] := fun hm => hSI (List.mem_singleton.mp hm)
  have W := (Walks.longrange (prog := prog) (w := w) (A := A.in1) hh s.heap.objs.size a c n).toS

  have key : ∀ (h : Heap) (c₁ tk : Nat), IsLongIter h s.heap.objs.size (a + ((0 : Nat) : Int) * c) ((n : Int) - ((0 : Nat) : Int)) c → (∀ b o, b ≠ S → s.heap.get? b = some o → h.get? b = some o) →
      h.get? S = some { cls := .type "list", data := .seq #[] c₁ } → codeAny (model prog w) A (.builtin "list.extend.loop" ⟨[.ref S, .ref s.heap.objs.size, res], []⟩) R { s with heap := h, toks := tk } := by
    intro h c₁ tk hit hk hS₁
    refine codeAny_extend_loopS W (by rw [sizeLine_eq]; omega) S hSf res n 0 _ #[] c₁ rfl (Nat.zero_le _) hit hS₁ (ItemsOf.nil _) fun s' acc' c' hm hS' hacc => ?_
    rw [Moved.eq_with hm]
    refine hR s'.heap s'.toks acc' c' (fun b o hb e => hm.heap b o (fun hmem => ?_) (hk b o hb e)) hS' hacc
    rcases List.mem_cons.mp hmem with e' | hmem
    · exact hb e'
    · exact absurd (Heap.lt_size e) (by rw [List.mem_singleton.mp hmem]; exact Nat.lt_irrefl _)
  unfold Builtin.List.listExtendWith
  refine wpAny_bind (wpAny_typeOf (T := "range") ⟨_, hr, rfl⟩ ?_)
  have h1 : Builtin.List.listSameRef (.ref S) (.ref r) = false := by simp [Builtin.List.listSameRef, hSr]
  have h2 : (Value.type "range" == Value.type "list") = false := by decide
  have h3 : (Value.type "range" == Value.type "tuple") = false := by decide
  simp only [h1, h2, h3, Bool.or_false, Bool.false_eq_true, if_false]
  refine wpAny_bind (wpAny_pyIter_longrange hr hbig ?_)
  refine wpAny_bind (wpAny_holding (wpAny_hint_range (n := n) (Heap.get?_push_of_some _ hr) hn hlen ?_))
  have hit₁ : IsLongIter (s.heap.push { cls := .type "longrange_iterator", data := .fields #[rawInt a, rawInt (Builtin.Range.rangeSize a b c), rawInt c] }) s.heap.objs.size (a + ((0 : Nat) : Int) * c) ((n : Int) - ((0 : Nat) : Int)) c := by
    show IsLongIter _ _ _ _ _; rw [hn]; simpa using Heap.get?_push_size _ rfl
  have hS₁ := Heap.get?_push_of_some { cls := .type "longrange_iterator", data := .fields #[rawInt a, rawInt (Builtin.Range.rangeSize a b c), rawInt c] } hS
  refine wpAny_ite_split (fun _ => ?_) (fun _ => wpAny_pure ⟨plainId_quiet F.plain_extend_loop _, key _ c₀ _ hit₁ (fun b o _ e => Heap.get?_push_of_some _ e) hS₁⟩)
  refine wpAny_bind (wpAny_rule ?_)
  refine wpAny_bind ?_
  show wpAny _ _ (updateSeq S (·.push .none) >>= fun _ => updateSeq S (·.pop)) _ _ _
  refine wpAny_bind (wpAny_updateSeq hS₁ rfl ?_)
  have hS₂ := Heap.get?_update_self (Obj.mapSeq (·.push Value.none)) hS₁ rfl
  refine wpAny_updateSeq (hz := by seq_fits) hS₂ rfl ?_
  have hS₃ := Heap.get?_update_self (Obj.mapSeq (·.pop)) hS₂ rfl
  refine wpAny_pure ⟨plainId_quiet F.plain_extend_loop _, key _ _ _ ?_ (fun b o hb e => ?_) hS₃⟩
  · exact (Heap.get?_update_other _ _ hSI).trans ((Heap.get?_update_other _ _ hSI).trans hit₁)
  · exact (Heap.get?_update_other _ _ (Ne.symm hb)).trans ((Heap.get?_update_other _ _ (Ne.symm hb)).trans (Heap.get?_push_of_some _ e))

theorem wpAny_list_init_rangeL {R : Result → Shared → Prop} {r : Addr} {a b c : Int} {t u v : Tok} {n : Nat} (hh : A.handled = none) (hr : IsRange s.heap r a b c t u v) (hbig : Builtin.Range.small a b c = false)
    (hn : Builtin.Range.rangeSize a b c = n) (hlen : n ≤ 2 ^ 24) (S : Addr) (hS : s.heap.get? S = some { cls := .type "list", data := .seq #[] })
    (hR : ∀ h' tk acc' c', (∀ b o, b ≠ S → s.heap.get? b = some o → h'.get? b = some o) → h'.get? S = some { cls := .type "list", dict := none, data := .seq acc' c', slots := #[] } →
      ItemsOf (fun i v => ∃ t, v = .int (a + i * c) t) acc' n → R (.ok (.ret .none)) { s with heap := h', toks := tk }) :
    wpAny (model prog w) A.in1 (Builtin.«list.__init__» ⟨[.ref S, .ref r], []⟩)
      (fun fin s' => match fin with | .done f => R (.ok f) s' | .again c' => c'.quiet = true ∧ codeAny (model prog w) A c' R s') (fun e s' => R (.error e) s') s := by
  have hSr : S ≠ r := fun e => by rw [e, hr] at hS; simp at hS
  show wpAny _ _ (do let old ← Builtin.List.listItems (.ref S); Builtin.List.listUpdate (.ref S) (fun _ => #[]); letGo old.toList.reverse; Builtin.List.listExtendWith (.ref S) (.ref r) .none) _ _ s
  refine wpAny_bind ?_
  unfold Builtin.List.listItems
  refine wpAny_bind (wpAny_seqItems hS rfl (wpAny_pure ?_))
  show wpAny _ _ (updateSeq S (fun _ => #[]) >>= fun _ => letGo (#[] : Array Value).toList.reverse >>= fun _ => Builtin.List.listExtendWith (.ref S) (.ref r) .none) _ _ s
  refine wpAny_bind (wpAny_updateSeq hS rfl ?_)
  have hS₂ := Heap.get?_update_self (Obj.mapSeq (fun _ => (#[] : Array Value))) hS rfl
  have oth : ∀ b o, b ≠ S → s.heap.get? b = some o → (s.heap.update S (Obj.mapSeq (fun _ => (#[] : Array Value)))).get? b = some o :=
    fun b o hb e => (Heap.get?_update_other _ _ (Ne.symm hb)).trans e
  refine wpAny_bind (wpAny_letGo ?_)
  refine wpAny_extend_rangeL hh (oth r _ (Ne.symm hSr) hr) hbig hn hlen S .none _ hS₂ fun h' tk acc' c' hk hS' hacc => ?_
  exact hR h' tk acc' c' (fun b o hb e => hk b o hb (oth b o hb e)) hS' hacc

theorem call_list_rangeL {Q : Value → Shared → Prop} {r : Addr} {a b c : Int} {t u v : Tok} {n : Nat} (hh : A.handled = none) (hr : IsRange s.heap r a b c t u v) (hbig : Builtin.Range.small a b c = false)
    (hn : Builtin.Range.rangeSize a b c = n) (hlen : n ≤ 2 ^ 24)
    (hQ : ∀ h' tk acc' c', (∀ b o, s.heap.get? b = some o → h'.get? b = some o) →
      h'.get? s.heap.objs.size = some { cls := .type "list", dict := none, data := .seq acc' c', slots := #[] } → ItemsOf (fun i v => ∃ t, v = .int (a + i * c) t) acc' n → Q (.ref s.heap.objs.size) { s with heap := h', toks := tk }) :
    wpAny (model prog w) A (call (.type "list") [.ref r]) Q E s := by
  refine callType_codes (Q₁ := fun obj s₁ => obj = .ref s.heap.objs.size ∧ s₁ = { s with heap := s.heap.push { cls := .type "list", data := .seq #[] } }) F.called_list (F.typeCall_list_1 _) F.entry_list_init
    (code_list_new _ ⟨rfl, rfl⟩) fun obj s₁ h₁ => ?_
  obtain ⟨rfl, rfl⟩ := h₁
  have hS : (s.heap.push { cls := .type "list", data := .seq #[] }).get? s.heap.objs.size = some { cls := .type "list", data := .seq #[] } := Heap.get?_push_size _ rfl
  refine ⟨⟨_, hS, rfl⟩, F.args_list_init_2 _ _, wpAny_list_init_rangeL (A := A.in1) hh (Heap.get?_push_of_some _ hr) hbig hn hlen _ hS fun h' tk acc' c' hk hS' hacc => ?_⟩
  exact ⟨rfl, hQ h' tk acc' c' (fun b o e => hk b o (Nat.ne_of_lt (Heap.lt_size e)) (Heap.get?_push_of_some _ e)) hS' hacc⟩
end
def tLstRgW (te : L2.St → Hp → (Int → Int → Hp → Prop) → Prop) : TE := fun σ H Q => te σ H fun a b H1 => (b - a).toNat ≤ 2 ^ 24 ∧ ∀ q, H1 q = none → Q (.ref q) (upd H1 q (.lst (rgV a b)))
theorem pe_listRgW {X : Cx} {e : Expr} {te : L2.St → Hp → (Int → Int → Hp → Prop) → Prop} {p pos : Pos} (hc : X.calm = true) (hg : Gl X "list") (hm : X.mg "list" = none) (he : PRg X e te) (na : starEach [e] X.env = (false, eval e X.env) :: starEach [] X.env := by rfl) : PE X (.Call (.Name "list" p) [e] [] pos) (tLstRgW te) := by
  refine ⟨fun pins s σ H Q I h => ?_⟩
  refine Call_ (ld_blt I hg hm boot_list (PyProof.Rows.callWith_type1 (args_cons (thn (he pins s σ H _ I h) fun x s1 ⟨r, a, b, t, u, v, H1, ex, hr, I1, ok, q⟩ => args_nil ?_) na) na))
  subst ex
  have fin : ∀ (h' : Heap) (tk : Nat) (acc : Array Value) (c' : Nat), (∀ b o, s1.heap.get? b = some o → h'.get? b = some o) → h'.get? s1.heap.objs.size = some { cls := .type "list", dict := none, data := .seq acc c', slots := #[] } →
      ItemsOf (fun i v => ∃ t, v = .int (a + i * 1) t) acc (b - a).toNat → ∃ y H', Inv X pins σ H' { s1 with heap := h', toks := tk } ∧ RelV y (.ref s1.heap.objs.size) ∧ Q y H' := fun h' tk acc c' hk e' hi => by
    refine ⟨.ref s1.heap.objs.size, upd H1 s1.heap.objs.size (.lst (rgV a b)), I1.laid hk (Nat.le_refl _) (show ObjOk X.prog X.w _ _ _ (.lst (rgV a b)) from ⟨?_, acc.toList, c', vals_rg hi, ?_⟩), rfl, q _ (I1.hok.fresh (Nat.le_refl _))⟩
    · rw [rgV_length, sizeLine_eq]; omega
    · rw [Array.toArray_toList]; exact e'
  cases z : Builtin.Range.small a b 1 with
  | true => exact call_list_range (n := (b - a).toNat) (I1.ok.hd hc) hr z (rangeSize_nat a b) ok fin
  | false => exact call_list_rangeL (n := (b - a).toNat) (I1.ok.hd hc) hr z (rangeSize_nat a b) ok fin
def dRgW (a b : D) : R D := match a, b with
  | .int i, .int j => if (j - i).toNat ≤ 1000000 then .ok (.lst (rangeD i (j - i).toNat)) else .stuck
  | _, _ => .stuck
section
variable {X : Cx} {E : En} {ks : List Kd} {a b : Expr} {ga gb : Sl → R D} {p p2 q pos : Pos}
theorem se_lrgW (B : Bl X.mg) (ha : SE X E ks .bor a ga) (hb : SE X E ks .bor b gb) (hc : X.calm = true := by rfl) (hg : Gl X "list" := by rfl) (hg2 : Gl X "range" := by rfl)
    (na : starEach [a, b] X.env = (false, eval a X.env) :: starEach [b] X.env := by rfl) (nb : starEach [b] X.env = (false, eval b X.env) :: starEach [] X.env := by rfl) (hp : (backTo q (starEach [b] X.env)).any (·.1) = false := by rfl)
    (ne : starEach [.Call (.Name "range" p2) [a, b] [] q] X.env = (false, eval (.Call (.Name "range" p2) [a, b] [] q) X.env) :: starEach [] X.env := by rfl) :
    SE X E ks (.own none) (.Call (.Name "list" p) [.Call (.Name "range" p2) [a, b] [] q] [] pos) (gBin dRgW ga gb) := by
  refine ⟨fun Hs H r σ W Q tk S P => ?_⟩
  refine we_of (pe_listRgW hc hg B.list (prg_2 hg2 B.range pe_we pe_we na nb hp) ne) ?_
  refine ha.run _ _ _ _ _ _ tk S (P.imp fun d1 v1 Hs1 H1 e1 g1 k1 P1 => ?_)
  refine hb.run _ _ _ _ _ _ tk (S.grow g1) (P1.imp fun d2 v2 Hs2 H2 e2 g2 k2 P2 => ?_)
  cases d1 <;> cases d2 <;> first | exact P2.elim | skip
  rename_i i j
  dsimp only [dRgW] at P2
  split at P2
  · rename_i h
    cases (k1.rb.grow g2).intInv
    cases k2.rb.intInv
    exact ⟨i, j, rfl, rfl, by omega, fun q hq => P2.finL g2.sub hq (rgV_rep i j)⟩
  · exact P2.elim
end
end VL
end

noncomputable section
namespace VL
open PySem PySem.Spec PyProof.Rows L2

/-! ### x = x + [e, ..], return x + [e, ..]: lists of own things put together -/
theorem OLs.app {cl : Cl} {N : Addr → Prop} {B Hs H : Hp} {k : Kd} : ∀ {ds : List D} {xs : List V} {As : List Addr} {es : List D} {ys : List V} {Bs : List Addr}, OLs cl N B Hs H k ds xs As → OLs cl N B Hs H k es ys Bs → OLs cl N B Hs H k (ds ++ es) (xs ++ ys) (As ++ Bs)
  | _, _, _, _, _, _, .nil, h => h
  | _, _, _, _, _, _, .cons o t, h => by
    rw [List.append_assoc]
    exact .cons o (OLs.app t h)
section
variable {E : En} {Hs H : Hp} {ks : List Kd} {r : Sl} {σ : L2.St} {n m : Option Addr} {k : Kd} {ds es : List D} {v w : V}
theorem StRel.catL (S : StRel E Hs H (.lls n k :: .lls m k :: ks) (some (.lst ds) :: some (.lst es) :: r) (some v :: some w :: σ)) :
    ∃ a xs b ys, v = .ref a ∧ w = .ref b ∧ H a = some (.lst xs) ∧ H b = some (.lst ys) ∧ xs.length = ds.length ∧ ys.length = es.length ∧
      ∀ p, H p = none → StRel E Hs (upd H p (.lst (xs ++ ys))) (.lls none k :: ks) (some (.lst (ds ++ es)) :: r) (some (.ref p) :: σ) := by
  obtain ⟨As, S⟩ := S
  have sl := S.sl
  have nd := S.nd
  have dis := S.dis
  cases sl with
  | cons o1 t1 =>
    cases t1 with
    | cons o2 t2 =>
      rename_i A1 A2 Ar
      cases o1 with
      | llV p0 _ => cases p0
      | lls p0 p1 p2 =>
        rename_i a xs AX
        cases o2 with
        | llV q0 _ => cases q0
        | lls q0 q1 q2 =>
          rename_i b ys AE
          refine ⟨a, xs, b, ys, rfl, rfl, p1, q1, p2.length, q2.length, fun p hp => ?_⟩
          have nd1 := List.nodup_append.mp nd
          have nd2 := List.nodup_append.mp nd1.2.1
          have nx := List.nodup_cons.mp nd1.1
          have ne := List.nodup_cons.mp nd2.1
          have live : ∀ c ∈ (a :: AX) ++ ((b :: AE) ++ Ar), c ≠ p := fun c hc z => by
            have here : ∃ o, H c = some o := by
              rcases List.mem_append.mp hc with y | y
              · obtain ⟨o, e, _⟩ := ORep.here _ _ _ _ (ORep.lls p0 p1 p2) c y
                exact ⟨o, e⟩
              · rcases List.mem_append.mp y with y | y
                · obtain ⟨o, e, _⟩ := ORep.here _ _ _ _ (ORep.lls q0 q1 q2) c y
                  exact ⟨o, e⟩
                · obtain ⟨o, e, _⟩ := Slots.here t2 c y
                  exact ⟨o, e⟩
            obtain ⟨o, e⟩ := here
            rw [z, hp] at e
            cases e
          have kX : ∀ c ∈ AX, upd H p (.lst (xs ++ ys)) c = H c := fun c hc => upd_ne (live c (by simp [hc]))
          have kE : ∀ c ∈ AE, upd H p (.lst (xs ++ ys)) c = H c := fun c hc => upd_ne (live c (by simp [hc]))
          have kR : ∀ c ∈ Ar, upd H p (.lst (xs ++ ys)) c = H c := fun c hc => upd_ne (live c (by simp [hc]))
          refine ⟨(p :: (AX ++ AE)) ++ Ar, .cons (.lls ⟨S.dom p hp, fun _ z => nomatch z⟩ upd_same (OLs.app (OLs.keep (Same.refl _) kX p2) (OLs.keep (Same.refl _) kE q2))) (Slots.mono (Same.refl _) kR t2), ?_, fun c hc => ?_, S.es, S.sub.trans (Same.updNew hp), S.eb.trans (Same.updNew hp), S.new, fun c z => ?_, fun P z => tab_upd hp P (S.tb P z)⟩
          · refine List.nodup_append.mpr ⟨List.nodup_cons.mpr ⟨fun hc => ?_, List.nodup_append.mpr ⟨nx.2, ne.2, fun x hx y hy => ?_⟩⟩, nd2.2.1, fun x hx y hy => ?_⟩
            · rcases List.mem_append.mp hc with y | y
              · exact live p (by simp [y]) rfl
              · exact live p (by simp [y]) rfl
            · exact nd1.2.2 x (List.mem_cons_of_mem _ hx) y (by simp [hy])
            · rcases List.mem_cons.mp hx with z | z
              · intro e
                exact live y (by simp [hy]) (by rw [← e, z])
              · rcases List.mem_append.mp z with z | z
                · exact nd1.2.2 x (List.mem_cons_of_mem _ z) y (by simp [hy])
                · exact nd2.2.2 x (List.mem_cons_of_mem _ z) y hy
          · rcases List.mem_append.mp hc with y | y
            · rcases List.mem_cons.mp y with z | z
              · rw [z]; exact ⟨S.sub.free hp, S.eb.free hp⟩
              · rcases List.mem_append.mp z with z | z
                · exact dis c (by simp [z])
                · exact dis c (by simp [z])
            · exact dis c (by simp [y])
          · have : c ≠ p := fun y => by rw [y, upd_same] at z; cases z
            rw [upd_ne this] at z
            exact S.dom c z
end
@[simp] def mCatL (i : Nat) (g : Sl → R D) : Sl → O := fun r => match r[i]? with
  | some (some (.lst ds)) => onR (g r) r fun d => (match d with
    | .lst es => if ds.length + es.length ≤ szL then .nx (r.set i (some (.lst (ds ++ es)))) else .stuck
    | _ => .stuck)
  | _ => .stuck
@[simp] def mRetCat (i : Nat) (g : Sl → R D) : Sl → O := fun r => match r[i]? with
  | some (some (.lst ds)) => onR (g r) r fun d => (match d with
    | .lst es => if ds.length + es.length ≤ szL then .rt (.lst (ds ++ es)) (r.set i none) else .stuck
    | _ => .stuck)
  | _ => .stuck
section
variable {X : Cx} {E : En} {kr : Kd} {fin : List Kd → Prop} {ks ks' : List Kd} {i : Nat} {k : Kd} {x : Str} {e : Expr} {g : Sl → R D} {pos p1 p2 p3 : Pos}
theorem ss_catL (he : SE X E ks (.lls none k) e g) (hND : X.N.Nodup) (hq : NmOk x) (fk : k.fine = true := by rfl) (hf : fin ks := by trivial) (hk : ks[i]? = some (.lls none k) := by rfl) (hN : X.N[i]? = some x := by rfl) (hx : Loc X.env.scope x := by first | exact Or.inl rfl | exact Or.inr rfl) (hv : Vis X.env.scope x := by first | exact Or.inl rfl | exact Or.inr (Or.inl rfl) | exact Or.inr (Or.inr rfl))
    (hs : swapsWith (.BinOp (.Name x p2) .Add e p3) (some (.Name x p1)) pos.line X.env = pure false := by rfl) (hfn : X.fn x = true ∨ X.env.scope.names.lookup x = some .local := by first | exact .inl rfl | exact .inr rfl | assumption) :
    SS X E kr fin ks (.Assign [.Name x p1] (.BinOp (.Name x p2) .Add e p3) pos) (mCatL i g) ks := by
  refine ⟨fun Hs H r σ W Dn tk S P => ?_⟩
  refine ws_of (ps_set hND hN hx (pe_op op_cat (pe_var hN hv hq.1 hq.2) pe_we) hs hfn) ?_
  unfold mCatL at P
  split at P
  · rename_i ds q
    obtain ⟨v0, A0, ev0, o0⟩ := S.get hk q
    refine ⟨v0, ev0, ?_⟩
    refine he.run _ _ _ _ _ _ tk S (Post.ofS hf S P fun d v Hs' H' e1 g1 k1 P1 => ?_)
    cases d <;> first | exact P1.elim | skip
    rename_i es
    dsimp only at P1
    split at P1
    · rename_i hz
      have SP := S.push g1 (by simpa [Kd.fine] using fk : (Kd.lls none k).fine = true) k1
      obtain ⟨w, ew, ST⟩ := SP.take (i := i + 1) (k := .lls none k) (d := .lst ds) (by simpa using hk) (by simpa using q)
      obtain ⟨a, xs, b, ys, rfl, rfl, h1, h2, l1, l2, back⟩ := ST.catL
      have ea : σ[i]? = some (some (.ref a)) := by simpa using ew
      rw [ev0] at ea
      cases ea
      refine ⟨a, b, xs, ys, rfl, rfl, h1, h2, by rw [szL_eq, l1, l2]; exact hz, fun p hp => ?_⟩
      have Z := (back p hp).settle hk
      rw [List.set_set, set_self hk] at Z
      exact P1 _ _ _ Z
    · exact P1.elim
  · exact P.elim
theorem ss_retCat (he : SE X E ks (.lls none k) e g) (hq : NmOk x) (fk : k.fine = true := by rfl) (hf : fin ks := by trivial) (hk : ks[i]? = some (.lls none k) := by rfl) (hN : X.N[i]? = some x := by rfl) (hv : Vis X.env.scope x := by first | exact Or.inl rfl | exact Or.inr (Or.inl rfl) | exact Or.inr (Or.inr rfl)) :
    SS X E (.lls none k) fin ks (.Return (some (.BinOp (.Name x p2) .Add e p3)) pos) (mRetCat i g) ks' := by
  refine ⟨fun Hs H r σ W Dn tk S P => ?_⟩
  refine ws_of (ps_ret (pe_op op_cat (pe_var hN hv hq.1 hq.2) pe_we)) ?_
  unfold mRetCat at P
  split at P
  · rename_i ds q
    obtain ⟨v0, A0, ev0, o0⟩ := S.get hk q
    refine ⟨v0, ev0, ?_⟩
    refine he.run _ _ _ _ _ _ tk S (Post.ofS hf S P fun d v Hs' H' e1 g1 k1 P1 => ?_)
    cases d <;> first | exact P1.elim | skip
    rename_i es
    dsimp only at P1
    split at P1
    · rename_i hz
      have SP := S.push g1 (by simpa [Kd.fine] using fk : (Kd.lls none k).fine = true) k1
      obtain ⟨w, ew, ST⟩ := SP.take (i := i + 1) (k := .lls none k) (d := .lst ds) (by simpa using hk) (by simpa using q)
      obtain ⟨a, xs, b, ys, rfl, rfl, h1, h2, l1, l2, back⟩ := ST.catL
      have ea : σ[i]? = some (some (.ref a)) := by simpa using ew
      rw [ev0] at ea
      cases ea
      refine ⟨a, b, xs, ys, rfl, rfl, h1, h2, by rw [szL_eq, l1, l2]; exact hz, fun p hp => ?_⟩
      exact P1 _ _ _ _ ks hf (back p hp)
    · exact P1.elim
  · exact P.elim
end
section
variable {X : Cx} {E : En} {kr : Kd} {fin : List Kd → Prop} {ks : List Kd} {i j : Nat} {n m : Option Addr} {x y : Str} {e : Expr} {g : Sl → R D} {pos p1 p2 p3 p4 p5 p6 p7 p8 p9 p10 : Pos}
/-- for y in x: y.reverse(); y.append(e) -/
def forRvA (i j : Nat) (g : Sl → R D) : Nat → Nat → Sl → O
  | 0, _, r => .nx r
  | n + 1, c, r => match (r.set j none)[i]? with
    | some (some (.lst ds)) => (match ds[c]? with
      | some (.lst es) => onR (g ((r.set j none).set i (some (.lst (ds.set c (.lst es.reverse)))))) ((r.set j none).set i (some (.lst (ds.set c (.lst es.reverse))))) fun d => if es.reverse.length < szL then forRvA i j g n (c + 1) (((r.set j none).set i (some (.lst (ds.set c (.lst es.reverse))))).set i (some (.lst ((ds.set c (.lst es.reverse)).set c (.lst (es.reverse ++ [d])))))) else .stuck
      | _ => .stuck)
    | _ => .stuck
def mForRvA (i j : Nat) (g : Sl → R D) : Sl → O := fun r => match r[i]? with
  | some (some (.lst ds)) => forRvA i j g ds.length 0 r
  | _ => .stuck
theorem ss_forRvA {kj : Kd} (hp : PassesOwn (model X.prog X.w) X.A X.env X.xe) (hc : X.calm = true) (he : SE X E ks .val e g) (hND : X.N.Nodup) (hq : NmOk x) (hqy : NmOk y) (hij : i ≠ j) (hf : fin ks := by trivial) (hk : ks[i]? = some (.lls n (.own m)) := by rfl) (hkj : ks[j]? = some kj := by rfl) (hN : X.N[i]? = some x := by rfl) (hv : Vis X.env.scope x := by first | exact Or.inl rfl | exact Or.inr (Or.inl rfl) | exact Or.inr (Or.inr rfl))
    (hNy : X.N[j]? = some y := by rfl) (hly : Loc X.env.scope y := by first | exact Or.inl rfl | exact Or.inr rfl) (hvy : Vis X.env.scope y := by first | exact Or.inl rfl | exact Or.inr (Or.inl rfl) | exact Or.inr (Or.inr rfl))
    (hs : swapsWith (.Call (.Attribute (.Name y p1) "append" p2) [e] [] p3) none p6.line X.env = pure false := by rfl)
    (hs0 : swapsWith (.Call (.Attribute (.Name y p7) "reverse" p8) [] [] p9) none p10.line X.env = pure false := by rfl) (hbase0 : attributeBase (.Name y p7) "reverse" X.env (eval (.Name y p7) X.env) = eval (.Name y p7) X.env := by rfl) (hline0 : (p8.endLine == p9.line) = true := by rfl)
    (hbase : attributeBase (.Name y p1) "append" X.env (eval (.Name y p1) X.env) = eval (.Name y p1) X.env := by rfl)
    (hfew : ((backTo p3 (starEach [e] X.env)).all (fun x => !x.1) && (backToKw p3 (keywordEach [] X.env)).all (fun x => x.1.isSome)
      && decide ([e].length + ([] : List Keyword).length + (if ([] : List Keyword).isEmpty then 0 else 1) < 30)) = true := by rfl)
    (hline : (p2.endLine == p3.line) = true := by rfl) (hst : starEach [e] X.env = (false, eval e X.env) :: starEach [] X.env := by rfl) (hplain : (backTo p3 (starEach [] X.env)).any (·.1) = false := by rfl)
    (hfs : ∀ z, foldedSetIterable (.Name x p5) X.env z = pure z := by intro _; rfl) (hfn : X.fn y = true ∨ X.env.scope.names.lookup y = some .local := by first | exact .inl rfl | exact .inr rfl | assumption) :
    SS X E kr fin ks (.For (.Name y p4) (.Name x p5) [.Expr (.Call (.Attribute (.Name y p7) "reverse" p8) [] [] p9) p10, .Expr (.Call (.Attribute (.Name y p1) "append" p2) [e] [] p3) p6] [] pos) (mForRvA i j g) ks := by
  refine ⟨fun Hs H r σ W Dn tk S P => ?_⟩
  refine ws_of (ps_for hp hc (pi_list (pe_var hN hv hq.1 hq.2)) (pg_name hND hNy hly (hf := hfn)) (pss_cons (ps_expr (pe_bm0 PySem.F.plainAttrs_list PySem.F.slot_list_reverse PySem.F.type_list_reverse mt_reverse (pe_var hNy hvy hqy.1 hqy.2) hbase0 hline0) hs0) (pss_one (ps_expr (pe_bm PySem.F.plainAttrs_list PySem.F.slot_list_append PySem.F.type_list_append mt_append (pe_var hNy hvy hqy.1 hqy.2) (pa_cons pe_we pa_nil hst) hbase hfew hline hst hplain) hs))) hfs) ?_
  unfold mForRvA at P
  split at P
  · rename_i ds q
    obtain ⟨a, xs, ea, h1, hl, k1⟩ := S.lmut hk q
    refine ⟨.ref a, ea, a, rfl, ⟨xs, SqL.of h1⟩, ?_⟩
    refine ⟨fun c mm σ' H' => mm = ds.length - c ∧ c ≤ ds.length ∧ σ'[i]? = some (some (.ref a)) ∧ H' a = some (.lst xs) ∧ ∃ Hs' r' ds', StRel E Hs' H' ks r' σ' ∧ r'[i]? = some (some (.lst ds')) ∧ PostS E ks kr fin W Dn (forRvA i j g (ds.length - c) c r'),
      ⟨ds.length, by simp, Nat.zero_le _, ea, h1, Hs, r, ds, S, q, P⟩, ?_⟩
    rintro c mm σ' H' ⟨rfl, hc', ea', h1', Hs', r', ds', S', q', P'⟩
    by_cases hlt : c < ds.length
    · obtain ⟨v0, hv0⟩ : ∃ v0, xs[c]? = some v0 := ⟨xs[c]'(by omega), by simp [hl, hlt]⟩
      refine .inr ⟨⟨xs, v0, SqL.of h1', hv0⟩, fun σ2 H2 => σ2[i]? = some (some (.ref a)) ∧ H2 a = some (.lst xs) ∧ ∃ Hs2 r2 ds2, StRel E Hs2 H2 ks r2 σ2 ∧ r2[i]? = some (some (.lst ds2)) ∧ PostS E ks kr fin W Dn (forRvA i j g (ds.length - (c + 1)) (c + 1) r2), ?_, ?_⟩
      · rintro σ2 H2 ⟨z1, z2, Hs2, r2, ds2, z3, z4, z5⟩
        exact ⟨ds.length - (c + 1), by omega, rfl, hlt, z1, z2, Hs2, r2, ds2, z3, z4, z5⟩
      · rintro v H2 ⟨rfl, hy⟩
        have ev := hy xs (SqL.of h1')
        rw [hv0] at ev
        cases ev
        rw [show ds.length - c = (ds.length - (c + 1)) + 1 by omega] at P'
        unfold forRvA at P'
        have S2 : StRel E Hs' H2 ks (r'.set j none) (σ'.set j (some v0)) := by
          have z := S'.wipe1 hkj (k' := kj) (some v0)
          rw [set_self hkj] at z
          exact z
        split at P'
        · rename_i ds2 q2
          have ed : ds2 = ds' := by
            rw [List.getElem?_set_ne hij.symm] at q2
            rw [q'] at q2
            cases q2
            rfl
          subst ed
          have ea2 : (σ'.set j (some v0))[i]? = some (some (.ref a)) := by rw [List.getElem?_set_ne hij.symm]; exact ea'
          split at P'
          · rename_i es qe
            obtain ⟨a3, xs3, ea3, h3, hl3, k3⟩ := S2.lmut hk q2
            rw [ea2] at ea3
            cases ea3
            rw [h1'] at h3
            cases h3
            obtain ⟨b, ys, e1, nb, h4, r1, up0⟩ := k3 c es qe
            rw [hv0] at e1
            cases e1
            have hjl : j < σ'.length := by
              obtain ⟨As0, s0⟩ := S'
              rw [s0.sl.len.2]
              exact (List.getElem?_eq_some_iff.mp hkj).1
            refine ⟨.ref b, by rw [List.getElem?_set_self hjl], tyV_lst h4, b, ys, rfl, rfl, h4, ?_⟩
            have SR := up0 es.reverse ys.reverse r1.rev
            have h1R : upd H2 b (.lst ys.reverse) a = some (.lst xs) := by rw [upd_ne nb]; exact h1'
            have hiR : i < (r'.set j none).length := (List.getElem?_eq_some_iff.mp q2).1
            have qR : ((r'.set j none).set i (some (.lst (ds2.set c (.lst es.reverse)))))[i]? = some (some (.lst (ds2.set c (.lst es.reverse)))) := List.getElem?_set_self hiR
            have hcR : c < ds2.length := (List.getElem?_eq_some_iff.mp qe).1
            have qeR : (ds2.set c (.lst es.reverse))[c]? = some (.lst es.reverse) := List.getElem?_set_self hcR
            refine ⟨.ref b, by rw [List.getElem?_set_self hjl], tyV_lst upd_same, ?_⟩
            refine he.run _ _ _ _ _ _ tk SR (Post.ofS hf SR P' fun d v2 Hs3 H3 _ g3 kk P1 => ?_)
            obtain ⟨a4, xs4, ea4, h5, hl4, k4⟩ := (SR.grow g3).lmut hk qR
            rw [ea2] at ea4
            cases ea4
            have z := g3.h.at _ _ h1R
            rw [h5] at z
            cases z
            obtain ⟨b', ys', e1', nb', h6, r2, up⟩ := k4 c es.reverse qeR
            rw [hv0] at e1'
            cases e1'
            split at P1
            · rename_i hz
              refine ⟨b, ys', v2, rfl, rfl, h6, by rw [szL_eq, r2.length]; exact hz, ?_⟩
              have S5 := up _ _ (r2.app (.cons kk.rep .nil))
              have hil : i < ((r'.set j none).set i (some (.lst (ds2.set c (.lst es.reverse))))).length := (List.getElem?_eq_some_iff.mp qR).1
              exact ⟨ea2, by rw [upd_ne nb]; exact h5, Hs3, _, _, S5, List.getElem?_set_self hil, P1⟩
            · exact P1.elim
          · exact P'.elim
        · exact P'.elim
    · have e0 : ds.length - c = 0 := by omega
      rw [e0] at P'
      exact .inl ⟨⟨xs, SqL.of h1', by omega⟩, P' _ _ _ S'⟩
  · exact P.elim
end

/-! ### [list(y) for y in x]: a copy of a list of own lists -/
def isLst : D → Bool
  | .lst _ => true
  | _ => false
def gCopyL (i : Nat) : Sl → R D := fun r => match r[i]? with
  | some (some (.lst ds)) => if ds.all isLst = true ∧ ds.length ≤ szL then .ok (.lst ds) else .stuck
  | _ => .stuck
section
variable {X : Cx} {E : En} {ks : List Kd} {i j : Nat} {n m : Option Addr} {x y : Str} {scope : Scope} {pos p1 p2 p3 p4 p5 : Pos}
theorem se_copyL (own : List (Str × Nat)) (B : Bl X.mg) (hc : X.calm = true) (hND : X.N.Nodup) (ok : BlkOk X.N X.env.scope scope own) (hvs : ∀ i ∈ own.map (·.2), i < ks.length) (hj : j ∈ own.map (·.2)) (hq : NmOk x)
    (hg : ∀ (s : Shared) (H : Hp) (C : Addr) (cl : List (Str × Addr)) (fp : List Addr), PG (X.blk s H scope (compEnvC scope cl C X.env) fp) (.Name y p1) (gName j))
    (he : ∀ (s : Shared) (H : Hp) (C : Addr) (cl : List (Str × Addr)) (fp : List Addr), PE (X.blk s H scope (compEnvC scope cl C X.env) fp) (.Call (.Name "list" p2) [.Name y p3] [] p4)
      (tCB (fun xs H Q => ∃ p ys, xs = [V.ref p] ∧ (SqL X.K H p ys ∨ SqT X.K H p ys) ∧ ∀ l, H l = none → Q (.ref l) (upd H l (.lst ys))) (tCons (tVar j) tNil)))
    (hk : ks[i]? = some (.lls n (.own m)) := by rfl) (hN : X.N[i]? = some x := by rfl) (hv : Vis X.env.scope x := by first | exact Or.inl rfl | exact Or.inr (Or.inl rfl) | exact Or.inr (Or.inr rfl))
    (hs : ∀ z, foldedSetIterable (.Name x p5) X.env z = pure z := by intro _; rfl) :
    SE X E ks (.own none) (.ListComp (.Call (.Name "list" p2) [.Name y p3] [] p4) [⟨.Name y p1, .Name x p5, [], 0⟩] scope pos) (gCopyL i) := by
  refine ⟨fun Hs H r σ W Q tk S P => ?_⟩
  refine we_of (pe_lc hc hND (pi_list (pe_var hN hv hq.1 hq.2)) ok hg (fun _ _ _ _ _ => pts_nil) he hs) ?_
  unfold gCopyL at P
  split at P
  · rename_i ds q
    split at P
    · rename_i hz
      obtain ⟨a, xs, ea, h1, hl, k1⟩ := S.lmut hk q
      obtain ⟨S2, hl2⟩ := StRel.wipe S (own.map (·.2)) hvs
      have hjw : j < (wipe σ (own.map (·.2))).length := by
        obtain ⟨As, s2⟩ := S2
        have e1 := s2.sl.len
        have e2 := hvs j hj
        rw [hl2] at e1
        omega
      refine ⟨.ref a, ea, a, rfl, ⟨xs, SqL.of h1⟩, fun D hD => ?_⟩
      refine ⟨fun c mm H' => mm = ds.length - c ∧ c ≤ ds.length ∧ ∃ Hs' acc, Grow Hs H Hs' H' ∧ H' D = some (.lst acc) ∧ Hs' D = none ∧ RepL E.cl Hs' (ds.take c) acc ∧ acc.length = c,
        ⟨ds.length, by simp, Nat.zero_le _, Hs, [], Grow.fresh S.sub hD, upd_same, S.sub.free hD, .nil, rfl⟩, ?_⟩
      rintro c mm H' ⟨rfl, hc', Hs', acc, g1, eD, nD, rp, la⟩
      have h1' : H' a = some (.lst xs) := g1.h.at _ _ h1
      by_cases hlt : c < ds.length
      · obtain ⟨es, hes⟩ : ∃ es, ds[c]? = some (.lst es) := by
          have := List.all_eq_true.mp hz.1 ds[c] (List.getElem_mem hlt)
          cases w : ds[c] with
          | lst es => exact ⟨es, by rw [List.getElem?_eq_getElem hlt, w]⟩
          | _ => rw [w] at this; cases this
        obtain ⟨b, ys, e1, nb, h2, r1, _⟩ := k1 c es hes
        have h2' : H' b = some (.lst ys) := g1.h.at _ _ h2
        refine .inr ⟨⟨xs, .ref b, SqL.of h1', e1⟩, fun H2 => ∃ Hs2 acc2, Grow Hs H Hs2 H2 ∧ H2 D = some (.lst acc2) ∧ Hs2 D = none ∧ RepL E.cl Hs2 (ds.take (c + 1)) acc2 ∧ acc2.length = c + 1, ?_, ?_⟩
        · rintro H2 ⟨Hs2, acc2, z1, z2, z3, z4, z5⟩
          exact ⟨ds.length - (c + 1), by omega, rfl, hlt, Hs2, acc2, z1, z2, z3, z4, z5⟩
        · rintro v H2 ⟨rfl, hy⟩
          have ev := hy xs (SqL.of h1')
          rw [e1] at ev
          cases ev
          refine ⟨?_, ?_⟩
          · have w1 := wipe_setV (is := [j]) (xs := [V.ref b]) (σ := wipe σ (own.map (·.2))) (vs := own.map (·.2)) (by simpa using hj)
            rw [wipe_idem] at w1
            exact w1
          · unfold tYes
            refine iteT ?_
            refine ⟨.ref b, List.getElem?_set_self hjw, b, ys, rfl, .inl (SqL.of h2'), fun l hl3 => ?_⟩
            have gN : Grow Hs' H2 (upd Hs' l (.lst ys)) (upd H2 l (.lst ys)) := Grow.new g1.sub hl3
            have g2 := g1.trans gN
            have nl : D ≠ l := fun w => by rw [← w, eD] at hl3; cases hl3
            have hD4 : upd H2 l (.lst ys) D = some (.lst acc) := by rw [upd_ne nl]; exact eD
            have hN4 : upd Hs' l (.lst ys) D = none := by rw [upd_ne nl]; exact nD
            refine ⟨acc, hD4, by rw [szL_eq, la]; omega, upd Hs' l (.lst ys), acc ++ [.ref l], ⟨g2.s, ⟨fun b2 u e nt => ?_⟩, g2.n, ⟨fun b2 u e nt => ?_⟩, fun P z => tab_mut hD4 P (g2.t P z)⟩, upd_same, hN4, ?_, by simp [la]⟩
            · rw [upd_ne (ne_of_none e hD)] at nt ⊢
              exact g2.h.k _ _ e nt
            · rw [upd_ne (ne_of_none e hN4)] at nt ⊢
              exact g2.sub.k _ _ e nt
            · have et : ds.take (c + 1) = ds.take c ++ [.lst es] := by
                rw [List.take_add_one, hes]
                rfl
              rw [et]
              have r2 : RepL E.cl Hs' es ys := RepL.same g1.s _ _ r1
              exact (RepL.same gN.s _ _ rp).app (.cons (.lst upd_same (RepL.same gN.s _ _ r2)) .nil)
      · have e : c = ds.length := by omega
        subst e
        refine .inl ⟨⟨xs, SqL.of h1', by omega⟩, ?_⟩
        rw [List.take_length] at rp
        refine P (.ref D) Hs' H' g1 ⟨[D], .ownL ⟨hD, fun _ z => nomatch z⟩ eD rp, by simp, fun a ha => ?_⟩
        have q : a = D := by simpa using ha
        subst q
        exact ⟨nD, hD⟩
    · exact P.elim
  · exact P.elim
end

/-! ### a question asked of a lent list -/
@[simp] def gScalT (g : Sl → R Bool) : Sl → R Bool := fun r => match g r with
  | .ok b => .ok b
  | _ => .stuck
theorem st_lend {X : Cx} {E : En} {ks : List Kd} {i : Nat} {k : Kd} {e : Expr} {g : Sl → R Bool} (he : ST X E (ks.set i .val) e g) (hk : ks[i]? = some k := by rfl) (fk : k.fine = true := by rfl) : ST X E ks e (gScalT g) := by
  refine ⟨fun Hs H r σ W Q tk S P => ?_⟩
  obtain ⟨Hs2, s2, S2⟩ := S.freezeK hk fk
  refine he.run _ _ _ _ _ _ tk S2 ?_
  unfold gScalT at P
  cases q : g r with
  | stuck => rw [q] at P; exact P.elim
  | exc x => rw [q] at P; exact P.elim
  | ok b =>
    rw [q] at P
    exact fun Hs' H' g1 => P Hs H' (Grow.same S.sub g1.h g1.t)
end VL
end

noncomputable section
namespace VL
open PySem PySem.Spec PyProof.Rows L2

/-! ### attributes and methods of objects that are stable, or borrowed -/
theorem RepF.look {cl : Cl} {H : Hp} {f : Str} {d : D} : ∀ {ds : List (Str × D)} {xs : List (Str × V)}, RepF cl H ds xs → ds.lookup f = some d → ∃ v, xs.lookup f = some v ∧ Rep cl H d v
  | [], _, h, e => by cases e
  | (g, d0) :: ds, _, h, e => by
    cases h with
    | cons h1 h2 =>
      rw [List.lookup] at e ⊢
      split at e
      · cases e
        exact ⟨_, rfl, h1⟩
      · exact RepF.look h2 e
theorem RepF.lookN {cl : Cl} {H : Hp} {f : Str} : ∀ {ds : List (Str × D)} {xs : List (Str × V)}, RepF cl H ds xs → ds.lookup f = none → xs.lookup f = none
  | [], _, h, e => by cases h; rfl
  | (g, d0) :: ds, _, h, e => by
    cases h with
    | cons h1 h2 =>
      rw [List.lookup] at e ⊢
      split at e
      · cases e
      · exact RepF.lookN h2 e
theorem RBF.look {cl : Cl} {Hs H : Hp} {f : Str} {d : D} : ∀ {ds : List (Str × D)} {xs : List (Str × V)}, RBF cl Hs H ds xs → ds.lookup f = some d → ∃ v, xs.lookup f = some v ∧ RB cl Hs H d v
  | [], _, h, e => by cases e
  | (g, d0) :: ds, _, h, e => by
    cases h with
    | cons h1 h2 =>
      rw [List.lookup] at e ⊢
      split at e
      · cases e
        exact ⟨_, rfl, h1⟩
      · exact RBF.look h2 e
theorem RBF.lookN {cl : Cl} {Hs H : Hp} {f : Str} : ∀ {ds : List (Str × D)} {xs : List (Str × V)}, RBF cl Hs H ds xs → ds.lookup f = none → xs.lookup f = none
  | [], _, h, e => by cases h; rfl
  | (g, d0) :: ds, _, h, e => by
    cases h with
    | cons h1 h2 =>
      rw [List.lookup] at e ⊢
      split at e
      · cases e
      · exact RBF.lookN h2 e
/-- field f of an object of class C -/
@[simp] def oAt (C f : Str) : D → R D
  | .obj C' fs => if C' = C then (match fs.lookup f with
    | some d => .ok d
    | none => .stuck) else .stuck
  | _ => .stuck
theorem RB.objInv {cl : Cl} {Hs H : Hp} {C : Str} {fs : List (Str × D)} {v : V} (h : RB cl Hs H (.obj C fs) v) (e : Same Hs H) : ∃ a c dx xs, v = .ref a ∧ cl.o C = some c ∧ H a = some (.ins c dx xs) ∧ RBF cl Hs H fs xs := by
  cases h with
  | val r =>
    cases r with
    | obj h0 h1 h2 =>
      refine ⟨_, _, _, _, rfl, h0, e.at _ _ h1, ?_⟩
      have key : ∀ {ds : List (Str × D)} {xs : List (Str × V)}, RepF cl Hs ds xs → RBF cl Hs H ds xs := by
        intro ds
        induction ds with
        | nil => intro xs h; cases h; exact .nil
        | cons p ds ih =>
          intro xs h
          cases h with
          | cons a b => exact .cons (.val a) (ih b)
      exact key h2
  | obj h0 h1 h2 => exact ⟨_, _, _, _, rfl, h0, h1, h2⟩
section
variable {X : Cx} {E : En} {ks : List Kd} {e : Expr} {g : Sl → R D} {C f : Str} {pos : Pos}
theorem se_attV (T : FldOk X.K E.cl C f) (he : SE X E ks .val e g) (hb : attributeBase e f X.env (eval e X.env) = eval e X.env := by rfl) : SE X E ks .val (.Attribute e f pos) (gUn (oAt C f) g) := by
  refine ⟨fun Hs H r σ W Q tk S P => ?_⟩
  refine we_of (pe_fld pe_we hb) ?_
  refine he.run _ _ _ _ _ _ tk S (P.imp fun d v Hs1 H1 e1 g1 k1 P1 => ?_)
  cases d <;> first | exact P1.elim | skip
  dsimp only [oAt] at P1
  split at P1
  · rename_i hc
    subst hc
    split at P1
    · rename_i d1 q
      have rp := k1.rep
      cases rp with
      | obj h0 h1 h2 =>
        obtain ⟨v1, e2, r2⟩ := h2.look q
        exact ⟨_, _, _, _, v1, rfl, g1.sub.at _ _ h1, (T _ h0).1, (T _ h0).2, e2, P1.finV g1.sub r2⟩
    · exact P1.elim
  · exact P1.elim
theorem se_attB (T : FldOk X.K E.cl C f) (he : SE X E ks .bor e g) (hb : attributeBase e f X.env (eval e X.env) = eval e X.env := by rfl) : SE X E ks .bor (.Attribute e f pos) (gUn (oAt C f) g) := by
  refine ⟨fun Hs H r σ W Q tk S P => ?_⟩
  refine we_of (pe_fld pe_we hb) ?_
  refine he.run _ _ _ _ _ _ tk S (P.imp fun d v Hs1 H1 e1 g1 k1 P1 => ?_)
  cases d <;> first | exact P1.elim | skip
  dsimp only [oAt] at P1
  split at P1
  · rename_i hc
    subst hc
    split at P1
    · rename_i d1 q
      obtain ⟨a, c, dx, xs, rfl, h0, h1, h2⟩ := k1.rb.objInv g1.sub
      obtain ⟨v1, e2, r2⟩ := h2.look q
      exact ⟨_, _, _, _, v1, rfl, h1, (T _ h0).1, (T _ h0).2, e2, P1 v1 Hs1 H1 (Grow.refl g1.sub) r2.rk⟩
    · exact P1.elim
  · exact P1.elim
end
/-- a method that changes nothing: a plain function of self and the rest -/
structure FiR (P : Program) (w : World) (K : PySem.W.Frag) (mg : Str → Option Value) (base : Heap) (cl : Cl) (C m : Str) (k : Nat) (b0 : Bool) (bs : List Bool) (kr : Kd) (f : List D → R D) : Prop where
  ex : ∃ c fa fd ps, cl.o C = some c ∧ Cls K c ∧ Meth K c m fa ∧ FnOk P w K mg base (L2.CX P w) k fa fd ps (spV cl (b0 :: bs) kr f) ∧ Binds K fd ps []
def dMethR (C m : Str) (f : List D → R D) (d : D) (t : R (List D)) : R D := match d with
  | .obj C' fs => if C' = C then (match fs.lookup m with
    | none => t >>= fun ds => f (.obj C fs :: ds)
    | some _ => .stuck) else .stuck
  | _ => .stuck
@[simp] def gMethR (C m : Str) (f : List D → R D) (go : Sl → R D) (t : Sl → R (List D)) : Sl → R D := fun r => do
  let d ← go r
  dMethR C m f d (t r)
section
variable {X : Cx} {E : En} {ks : List Kd} {o e : Expr} {es : List Expr} {go : Sl → R D} {t : Sl → R (List D)} {C m : Str} {k : Nat} {b0 : Bool} {bs : List Bool} {kr : Kd} {f : List D → R D} {apos pos : Pos}
theorem RK.kd {cl : Cl} {H0 Hs H : Hp} {d : D} {v : V} {b0 : Bool} (h : RK cl (kdOf b0) H0 Hs H d v) : RB cl Hs H d v := by
  cases b0 with
  | true => exact .val (RK.rep h)
  | false => exact RK.rb h
theorem RAs.kd {cl : Cl} {Hs H H0 Hs' H' : Hp} {d : D} {v : V} {b0 : Bool} {bs : List Bool} {ds : List D} {vs : List V} (h : RK cl (kdOf b0) H0 Hs H d v) (g : Grow Hs H Hs' H') (a : RAs cl Hs' H' bs ds vs) : RAs cl Hs' H' (b0 :: bs) (d :: ds) (v :: vs) := by
  cases b0 with
  | true => exact .val (Rep.same g.s _ _ (RK.rep h)) a
  | false => exact .bor ((RK.rb h).grow g) a
theorem se_methR (F : FiR X.prog X.w X.K X.mg X.base E.cl C m k b0 bs kr f) (hr : Room k X.A) (ho : SE X E ks (kdOf b0) o go) (ha : SA X E ks bs (e :: es) t) {pl : Sem Bool}
    (hst : starEach (e :: es) X.env = (false, eval e X.env) :: starEach es X.env := by rfl) (hpl : (backTo pos (starEach es X.env)).any (·.1) = false := by rfl)
    (ht : eval (.Call (.Attribute o m apos) (e :: es) [] pos) X.env = (do
      let ov ← eval o X.env
      standAt apos.atName
      let (f, first) ← holding [ov] (getMethod ov m pl)
      callWith pos f first (backTo pos (starEach (e :: es) X.env)) (backToKw pos (keywordEach [] X.env))) := by rfl) :
    SE X E ks kr (.Call (.Attribute o m apos) (e :: es) [] pos) (gMethR C m f go t) := by
  refine ⟨fun Hs H r σ W Q tk S P => ?_⟩
  obtain ⟨c, fa, fd, ps, q0, M1, M2, F2, F3⟩ := F.ex
  refine we_of (pe_mS pe_we M1 M2 F2 hr F3 (fun σ => passAt tk σ) pa_wa hst hpl ht) ?_
  refine ho.run _ _ _ _ _ _ tk S (Post.imp (F := fun d => dMethR C m f d (t r)) P fun d v Hs1 H1 e1 g1 k1 P1 => ?_)
  cases d <;> first | exact P1.elim | skip
  dsimp only [dMethR] at P1
  split at P1
  · rename_i hc
    subst hc
    split at P1
    · rename_i hl
      obtain ⟨a, c2, dx, xs, rfl, h0, h1, h2⟩ := k1.kd.objInv g1.sub
      rw [q0] at h0
      cases h0
      refine ⟨a, dx, xs, rfl, h1, h2.lookN hl, ?_⟩
      refine ha.run _ _ _ _ _ _ tk (S.grow g1) (PostA.of P1 fun ds vs Hs2 H2 e2 g2 a2 P2 => ?_)
      exact ⟨_, Hs2, g2.sub, RAs.kd k1 g2 a2, P2⟩
    · exact P1.elim
  · exact P1.elim
theorem se_methR0 (F : FiR X.prog X.w X.K X.mg X.base E.cl C m k b0 [] kr f) (hr : Room k X.A) (ho : SE X E ks (kdOf b0) o go) {pl : Sem Bool}
    (ht : eval (.Call (.Attribute o m apos) [] [] pos) X.env = (do
      let ov ← eval o X.env
      standAt apos.atName
      let (f, first) ← holding [ov] (getMethod ov m pl)
      callWith pos f first (backTo pos (starEach [] X.env)) (backToKw pos (keywordEach [] X.env))) := by rfl) :
    SE X E ks kr (.Call (.Attribute o m apos) [] [] pos) (gMethR C m f go gNil) := by
  refine ⟨fun Hs H r σ W Q tk S P => ?_⟩
  obtain ⟨c, fa, fd, ps, q0, M1, M2, F2, F3⟩ := F.ex
  refine we_of (pe_mS0 pe_we M1 M2 F2 hr F3 (fun σ => passAt tk σ) ht) ?_
  refine ho.run _ _ _ _ _ _ tk S (Post.imp (F := fun d => dMethR C m f d (.ok [])) P fun d v Hs1 H1 e1 g1 k1 P1 => ?_)
  cases d <;> first | exact P1.elim | skip
  dsimp only [dMethR] at P1
  split at P1
  · rename_i hc
    subst hc
    split at P1
    · rename_i hl
      obtain ⟨a, c2, dx, xs, rfl, h0, h1, h2⟩ := k1.kd.objInv g1.sub
      rw [q0] at h0
      cases h0
      exact ⟨a, dx, xs, rfl, h1, h2.lookN hl, _, Hs1, g1.sub, RAs.kd k1 (Grow.refl g1.sub) .nil, P1⟩
    · exact P1.elim
  · exact P1.elim
end
theorem def_okR {P : Program} {w : World} {K : PySem.W.Frag} {mg : Str → Option Value} {base : Heap} {cl : Cl} {C x qual : Str} {st : Stmt} {c fa : Addr} {fd : FuncData} {N ps : List Str} {k : Nat} {b0 : Bool} {bs : List Bool} {kr : Kd} {ls ks' : List Kd} {m : Sl → O}
    (F : Fun K x qual st fa fd) (S : FnScope N ps (defScope st)) (bn : Binds K fd ps []) (hc : cl.o C = some c) (h1 : Cls K c) (h2 : Meth K c x fa) (hb : (b0 :: bs).length = ps.length) (hN : N.length = ps.length + ls.length) (fk : kr.fine = true) (ko : kr = .val ∨ kr = .own none)
    (body : ∀ (cdv : Value) (A : Around) (outer : List Env) (s : Shared) (H : Hp) (E : XK) (h0 s0 b0' : Hp), Room k (A.deeper (envOfC qual (defScope st) s.heap.objs.size fa cdv)) →
      SB (cxOf (L2.CX P w) P w K mg base N qual (defScope st) fa cdv A outer s H E) ⟨cl, h0, s0, b0'⟩ kr (fun _ => True) ((b0 :: bs).map kdOf ++ ls) (defBody st) m ks') : FiR P w K mg base cl C x (k + 1) b0 bs kr (runF m ls.length) :=
  ⟨c, fa, fd, ps, hc, h1, h2, def_okF F S hb hN fk ko body, bn⟩

/-! ### list(d), dict(d) -/
@[simp] def fListD : List D → R D
  | [.dct kvs] => .ok (.lst (kvs.map fun p => keyD p.1))
  | _ => .stuck
@[simp] def fDictD : List D → R D
  | [.dct kvs] => .ok (.dct kvs)
  | _ => .stuck
theorem RepK.keys {cl : Cl} {H : Hp} : ∀ {ds : List (Key × D)} {xs : List (Key × V)}, RepK cl H ds xs → RepL cl H (ds.map fun p => keyD p.1) (xs.map fun kv => kV kv.1)
  | [], _, h => by cases h; exact .nil
  | (k, d) :: ds, _, h => by
    cases h with
    | cons h1 h2 => exact .cons (keyRep k) (RepK.keys h2)
theorem callv_listD {X : Cx} : CallV X.K (fun xs H Q => ∃ a kvs, xs = [V.ref a] ∧ Rd H a (.dK kvs) ∧ ∀ p, H p = none → Q (.ref p) (upd H p (.lst (kvs.map fun kv => kV kv.1)))) (.own none) [false] fListD := by
  intro cl Hs H ds vs Q W e a P
  obtain ⟨d, v, rfl, rfl, r⟩ := a.one
  cases d <;> first | exact P.elim | skip
  obtain ⟨p, xs, rfl, h1, r1⟩ := r.dctInv e
  exact ⟨p, xs, rfl, h1, fun q hq => P.finL e hq r1.keys⟩
theorem RK.ownNewK {cl : Cl} {Hs H : Hp} {ds : List (Key × D)} {xs : List (Key × V)} {p : Addr} (e : Same Hs H) (hp : H p = none) (r : RepK cl Hs ds xs) : RK cl (.own none) H Hs (upd H p (.dK xs)) (.dct ds) (.ref p) :=
  ⟨[p], .ownK ⟨hp, fun _ z => nomatch z⟩ upd_same r, by simp, fun a ha => by
    have q : a = p := by simpa using ha
    subst q
    exact ⟨e.free hp, hp⟩⟩
theorem callv_dictD {X : Cx} : CallV X.K (fun xs H Q => ∃ a kvs, xs = [V.ref a] ∧ Rd H a (.dK kvs) ∧ ∀ p, H p = none → Q (.ref p) (upd H p (.dK kvs))) (.own none) [false] fDictD := by
  intro cl Hs H ds vs Q W e a P
  obtain ⟨d, v, rfl, rfl, r⟩ := a.one
  cases d <;> first | exact P.elim | skip
  obtain ⟨p, xs, rfl, h1, r1⟩ := r.dctInv e
  exact ⟨p, xs, rfl, h1, fun q hq => P _ _ _ (Grow.fresh e hq) (RK.ownNewK e hq r1)⟩

section
variable {X : Cx} {E : En} {ks : List Kd} {e o : Expr} {es : List Expr} {t : Sl → R (List D)} {p pos : Pos}
theorem sf_ListD (B : Bl X.mg) (ha : SA X E ks [false] (e :: es) t) (hc : X.calm = true := by rfl) (hg : Gl X "list" := by rfl) (he : starEach (e :: es) X.env = (false, eval e X.env) :: starEach es X.env := by rfl) (hpl : (backTo pos (starEach es X.env)).any (·.1) = false := by rfl) : SE X E ks (.own none) (.Call (.Name "list" p) (e :: es) [] pos) (gCall fListD t) :=
  se_callTy (call_listD hc) callv_listD B.list bb_list ha hg (by decide) (by decide) he hpl
theorem sf_DictD (B : Bl X.mg) (ha : SA X E ks [false] (e :: es) t) (hg : Gl X "dict" := by rfl) (he : starEach (e :: es) X.env = (false, eval e X.env) :: starEach es X.env := by rfl) (hpl : (backTo pos (starEach es X.env)).any (·.1) = false := by rfl) : SE X E ks (.own none) (.Call (.Name "dict" p) (e :: es) [] pos) (gCall fDictD t) :=
  se_callTy call_dictD callv_dictD B.dict bb_dict ha hg (by decide) (by decide) he hpl
end

/-! ### xs == [], xs != [] whatever the items are -/
def rNil (K : PySem.W.Frag) (neg : Bool) : R2 := fun x y H Q => ∃ a b xs, x = .ref a ∧ y = .ref b ∧ SqL K H a xs ∧ SqL K H b [] ∧ Q (.bl (xs.isEmpty != neg)) H
theorem op_eqNil {X : Cx} (hu : X.A.units + 64 < cLine) : OpR X (compareOp .Eq) (rNil X.K false) := by
  intro pins s σ H x y v u Q I rx ry h
  obtain ⟨a, b, xs, rfl, rfl, ha, hb, q⟩ := h
  cases rx
  cases ry
  obtain ⟨its, r, pl, hz⟩ := I.list ha
  obtain ⟨its2, r2, pl2, hz2⟩ := I.list hb
  cases r2
  cases r with
  | nil => exact PySem.SeqAt.RcAt.lists (e := fun _ => true) pl.isList pl2.isList rfl (by omega) (fun j h1 _ => by simp at h1) _ _ _ _ ⟨.bl _, H, I, rfl, by simpa using q⟩
  | cons r1 rr => exact PySem.SeqAt.RcAt.lists_lengths pl.isList pl2.isList (by simp) (by omega) _ _ _ _ ⟨.bl _, H, I, rfl, by simpa using q⟩
theorem op_neNil {X : Cx} (hu : X.A.units + 64 < cLine) : OpR X (compareOp .NotEq) (rNil X.K true) := by
  intro pins s σ H x y v u Q I rx ry h
  obtain ⟨a, b, xs, rfl, rfl, ha, hb, q⟩ := h
  cases rx
  cases ry
  obtain ⟨its, r, pl, hz⟩ := I.list ha
  obtain ⟨its2, r2, pl2, hz2⟩ := I.list hb
  cases r2
  cases r with
  | nil => exact PySem.SeqAt.RcNeAt.lists (e := fun _ => true) pl.isList pl2.isList rfl (by omega) (fun j h1 _ => by simp at h1) _ _ _ _ ⟨.bl _, H, I, rfl, by simpa using q⟩
  | cons r1 rr => exact PySem.SeqAt.RcNeAt.lists_lengths pl.isList pl2.isList (by simp) (by omega) _ _ _ _ ⟨.bl _, H, I, rfl, by simpa using q⟩
def dNilQ (neg : Bool) : D → D → R D
  | .lst ds, .lst [] => .ok (.bl (ds.isEmpty != neg))
  | _, _ => .stuck
theorem nox_nil {neg : Bool} : NoX (dNilQ neg) := fun a b x h => by
  cases a <;> cases b <;> first | (cases h; done) | (rename_i es; cases es <;> cases h)
theorem opv_nil {X : Cx} {neg : Bool} : OpV X.K (rNil X.K neg) .val (dNilQ neg) := by
  intro cl Hs H d1 d2 v1 v2 Q W e b1 b2 P nx
  cases d1 <;> cases d2 <;> first | exact P.elim | skip
  rename_i ds es
  cases es with
  | cons _ _ => exact P.elim
  | nil =>
    obtain ⟨a, xs, rfl, h1, r1⟩ := b1.lstInv e
    obtain ⟨b, ys, rfl, h2, r2⟩ := b2.lstInv e
    cases r2
    refine ⟨a, b, xs, rfl, rfl, SqL.of h1, SqL.of h2, ?_⟩
    have ee : xs.isEmpty = ds.isEmpty := by cases r1 <;> rfl
    rw [ee]
    exact P.finV e (.bl _)

/-! ### an object's own dict, changed where it lies -/
section
variable {E : En} {Hs H : Hp} {ks : List Kd} {r : Sl} {σ : L2.St} {i j : Nat} {n : Option Addr} {kk : List (Str × Kd)} {f C : Str} {ds : List (Str × D)}
theorem StRel.fldMutK {m : Option Addr} {es : List (Key × D)} (S : StRel E Hs H ks r σ) (hk : ks[i]? = some (.obj n kk)) (hd : r[i]? = some (some (.obj C ds))) (fo : (Kd.obj n kk).fine = true) (hj : kk[j]? = some (f, .own m)) (he : ds[j]? = some (f, .dct es)) :
    ∃ a c dx xs b ys, σ[i]? = some (some (.ref a)) ∧ E.cl.o C = some c ∧ H a = some (.ins c dx xs) ∧ xs.map (·.1) = kk.map (·.1) ∧ xs[j]? = some (f, .ref b) ∧ a ≠ b ∧ H b = some (.dK ys) ∧ RepK E.cl Hs es ys ∧
      ∀ es' ys', RepK E.cl Hs es' ys' → StRel E Hs (upd H b (.dK ys')) ks (r.set i (some (.obj C (ds.set j (f, .dct es'))))) σ := by
  obtain ⟨u, Af, eu, o, nd, dz, sub, back⟩ := S.chg hk hd fo
  cases o with
  | obj h0 h1 h2 h3 =>
    rename_i a c dx xs As
    obtain ⟨pre, A, post, d1, v1, e1, e2, e3, e4, e5⟩ := OFs.pos j h3 hj
    rw [he] at e2
    cases e2
    cases e4 with
    | ownV q0 q1 => cases q0
    | ownK q0 q1 q2 =>
      rename_i b ys
      subst e1
      have nc := List.nodup_cons.mp nd
      have nb : a ≠ b := fun w => nc.1 (by rw [w]; simp)
      have hin : b ∈ a :: (pre ++ ([b] ++ post)) := by simp
      refine ⟨a, c, dx, xs, b, ys, eu, h1, h2, h3.names.1, e3, nb, q1, q2, fun es' ys' rp => ?_⟩
      have np : ∀ x ∈ pre ++ post, x ≠ b := fun x hx w => by
        have q := List.nodup_append.mp nc.2
        rcases List.mem_append.mp hx with z | z
        · exact q.2.2 x z b (by simp) w
        · have q' := List.nodup_append.mp q.2.1
          exact q'.2.2 b (by simp) x z w.symm
      have of' := e5 Hs (upd H b (.dK ys')) (Same.refl _) (fun x hx => upd_ne (np x hx)) (.own m) (.dct es') (.ref b) [b] (.ownK q0 upd_same rp)
      rw [set_self hj, set_self e3] at of'
      have z := back Hs (upd H b (.dK ys')) (.obj n kk) (.obj C (ds.set j (f, .dct es'))) (a :: (pre ++ ([b] ++ post))) fo (Grow.inside sub hin dz) (.obj h0 h1 ((upd_ne nb).trans h2) of') nd fun x hx => ⟨dz x hx, sans_in hx⟩
      rw [set_self hk] at z
      exact z
/-- field j of slot i's object is frozen -/
theorem StRel.fldFrz {m : Option Addr} (S : StRel E Hs H ks r σ) (hk : ks[i]? = some (.obj n kk)) (hj : kk[j]? = some (f, .own m)) (fo : (Kd.obj n kk).fine = true) : ∃ Hs2, StRel E Hs2 H (ks.set i (.obj n (kk.set j (f, .val)))) r σ := by
  cases hr : r[i]? with
  | none =>
    obtain ⟨As, S0⟩ := S
    have l := S0.sl.len
    have hi : i < ks.length := (List.getElem?_eq_some_iff.mp hk).1
    have : r.length ≤ i := List.getElem?_eq_none_iff.mp hr
    omega
  | some o =>
    cases o with
    | none =>
      have z := S.wipe1 (k' := .obj n (kk.set j (f, .val))) hk σ[i]?.join
      obtain ⟨As, S0⟩ := S
      have l := S0.sl.len
      have hi : i < ks.length := (List.getElem?_eq_some_iff.mp hk).1
      have e1 : r.set i none = r := set_self hr
      have e2 : σ.set i σ[i]?.join = σ := by
        have : i < σ.length := by rw [l.2]; exact hi
        rw [List.getElem?_eq_getElem this]
        exact List.set_getElem_self _
      rw [e1, e2] at z
      exact ⟨Hs, z⟩
    | some d =>
      obtain ⟨As, S0⟩ := S
      obtain ⟨pre, A, post, e, q1, _, _, q3⟩ := S0.sl.at_ i hk
      obtain ⟨v, ev, o⟩ := q1 d hr
      have here := S0.sl.here
      cases o with
      | obj h0 h1 h2 h3 =>
        rename_i a c dx C ds xs As2
        obtain ⟨p2, A2, s2, d1, v1, e1, e2, e3, e4, e5⟩ := OFs.pos j h3 hj
        subst e1
        have inA : ∀ b ∈ A2, b ∈ As := fun b hb => by rw [e]; simp [hb]
        have nA2 : ∀ b ∈ A2, E.h b = none := by
          cases e4 with
          | ownL h0 h1 h2 => intro b hb; simp at hb; subst hb; exact h0.1
          | ownK h0 h1 h2 => intro b hb; simp at hb; subst hb; exact h0.1
          | ownV h0 h1 => intro b hb; cases hb
        have pS : Same Hs (plus Hs H A2) := plus_same fun b hb => (S0.dis b (inA b hb)).1
        have rp : Rep E.cl (plus Hs H A2) d1 v1 := ORep.freeze pS _ _ _ _ rfl (fun b hb => by unfold plus; rw [if_pos hb]) e4
        have of' := e5 (plus Hs H A2) H pS (fun _ _ => rfl) .val d1 v1 [] (.val rp)
        have e6 : ds.set j (f, d1) = ds := set_self e2
        have e7 : xs.set j (f, v1) = xs := set_self e3
        rw [e6, e7] at of'
        have z := q3 (plus Hs H A2) H pS (fun _ _ => rfl) (.obj n (kk.set j (f, .val))) (.obj C ds) (.ref a) _ (.obj h0 h1 h2 of')
        rw [set_self hr, set_self ev] at z
        have sub : (pre ++ ((a :: (p2 ++ ([] ++ s2))) ++ post)).Sublist As := by
          rw [e]
          refine List.Sublist.append (List.Sublist.refl _) (List.Sublist.append (List.Sublist.cons_cons _ (List.Sublist.append (List.Sublist.refl _) ?_)) (List.Sublist.refl _))
          rw [List.nil_append]
          exact List.sublist_append_right _ _
        have nd := S0.nd
        rw [e] at nd
        refine ⟨plus Hs H A2, _, z, S0.nd.sublist sub, fun b hb => ⟨?_, (S0.dis b (sub.subset hb)).2⟩, S0.es.trans pS, plus_sub S0.sub, S0.eb, fun b q => ?_, S0.dom, S0.tb⟩
        · have hn : b ∉ A2 := fun w => by
            have n1 := List.nodup_append.mp nd
            have n2 := List.nodup_append.mp n1.2.1
            have n3 := List.nodup_cons.mp n2.1
            have n4 := List.nodup_append.mp n3.2
            have n5 := List.nodup_append.mp n4.2.1
            have wi : b ∈ a :: (p2 ++ (A2 ++ s2)) := by simp [w]
            rcases List.mem_append.mp hb with u | u
            · exact n1.2.2 b u b (List.mem_append_left _ wi) rfl
            · rcases List.mem_append.mp u with u | u
              · rcases List.mem_cons.mp u with u | u
                · exact n3.1 (by rw [← u]; simp [w])
                · rcases List.mem_append.mp u with u | u
                  · exact n4.2.2 b u b (List.mem_append_left _ w) rfl
                  · exact n5.2.2 b w b (by simpa using u) rfl
              · exact n2.2.2 b wi b u rfl
          unfold plus
          rw [if_neg hn]
          exact (S0.dis b (sub.subset hb)).1
        · unfold plus at q
          split at q
          · rename_i w
            exact .inr (nA2 b w)
          · exact S0.new b q
end
def delD (ds : List (Key × D)) (k : Key) : List (Key × D) := ds.filter fun kv => decide (kv.1 ≠ k)
theorem RepK.del {cl : Cl} {H : Hp} (k : Key) : ∀ {ds : List (Key × D)} {xs : List (Key × V)}, RepK cl H ds xs → RepK cl H (delD ds k) (dropK xs k)
  | [], _, h => by cases h; exact .nil
  | (k0, d) :: ds, _, h => by
    cases h with
    | cons h1 h2 =>
      by_cases c : k0 = k
      · simpa [delD, dropK, List.filter_cons, c] using RepK.del k h2
      · have z := RepK.cons (k := k0) h1 (RepK.del k h2)
        simpa [delD, dropK, List.filter_cons, c] using z
section
variable {X : Cx} {E : En} {fin : List Kd → Prop} {kr : Kd} {ks ks' : List Kd} {i j : Nat} {n m0 : Option Addr} {kk : List (Str × Kd)} {C f x : Str} {e e2 : Expr} {g g2 : Sl → R D} {p0 p1 p2 p3 pos : Pos} {sts : List Stmt} {m : Sl → O}
/-- ahead of a block, at its end: field j of slot i is frozen -/
theorem sb_frzF (i j : Nat) (h : SB X E kr fin (ks.set i (.obj n (kk.set j (f, .val)))) sts m ks') (hk : ks[i]? = some (.obj n kk) := by rfl) (hj : kk[j]? = some (f, .own m0) := by rfl) (fo : (Kd.obj n kk).fine = true := by rfl) : SB X E kr fin ks sts m ks' := by
  refine ⟨fun Hs H r σ W Dn tk S P => ?_⟩
  obtain ⟨Hs2, S2⟩ := S.fldFrz hk hj fo
  exact h.run _ _ _ _ _ _ tk S2 P
/-- x.f.pop(e), a statement -/
@[simp] def mFldPopK (C f : Str) (i j : Nat) (g : Sl → R D) : Sl → O := fun r => onR (noX (gFld C i j r)) r fun d0 => match d0 with
  | .dct es => onR (noX (g r)) r fun d => (match keyOf d with
    | some k => (match valD es k, r[i]? with
      | some _, some (some (.obj C' fs)) => .nx (r.set i (some (.obj C (fs.set j (f, .dct (delD es k))))))
      | _, _ => .stuck)
    | none => .stuck)
  | _ => .stuck
/-- x.f[e] = e2 -/
@[simp] def mFldPutK (C f : Str) (i j : Nat) (g g2 : Sl → R D) : Sl → O := fun r => onR (noX (g2 r)) r fun d2 => onR (noX (gFld C i j r)) r fun d0 => match d0 with
  | .dct es => onR (noX (g r)) r fun d => (match keyOf d with
    | some k => (match r[i]? with
      | some (some (.obj C' fs)) => if es.length < szL then .nx (r.set i (some (.obj C (fs.set j (f, .dct (putD es k d2)))))) else .stuck
      | _ => .stuck)
    | none => .stuck)
  | _ => .stuck
theorem ss_fldPopK (T : FldOk X.K E.cl C f) (he : SE X E ks .bor e g) (hnd : (kk.map (·.1)).Nodup) (hq : NmOk x) (hk : ks[i]? = some (.obj n kk) := by rfl) (hj : kk[j]? = some (f, .own m0) := by rfl)
    (fo : (Kd.obj n kk).fine = true := by rfl) (hN : X.N[i]? = some x := by rfl) (hv : Vis X.env.scope x := by first | exact Or.inl rfl | exact Or.inr (Or.inl rfl) | exact Or.inr (Or.inr rfl))
    (hs : swapsWith (.Call (.Attribute (.Attribute (.Name x p1) f p0) "pop" p2) [e] [] p3) none pos.line X.env = pure false := by rfl)
    (hb : attributeBase (.Name x p1) f X.env (eval (.Name x p1) X.env) = eval (.Name x p1) X.env := by rfl)
    (hm : M1 X (.Attribute (.Name x p1) f p0) "pop" p2 e p3 := by exact ⟨rfl, rfl, rfl, rfl⟩) :
    SS X E kr fin ks (.Expr (.Call (.Attribute (.Attribute (.Name x p1) f p0) "pop" p2) [e] [] p3) pos) (mFldPopK C f i j g) ks := by
  refine ⟨fun Hs H r σ W Dn tk S P => ?_⟩
  refine ws_of (ps_expr (pe_dpop1 (pe_fld (pe_var hN hv hq.1 hq.2) hb) pe_we hm) hs) ?_
  unfold mFldPopK at P
  cases q : gFld C i j r with
  | stuck => rw [q] at P; exact P.elim
  | exc x => exact (gFld_exc q).elim
  | ok d0 =>
    rw [q] at P
    dsimp only [onR, noX] at P
    cases d0 <;> first | exact P.elim | skip
    rename_i es
    obtain ⟨fs, g0, e1, e2⟩ := gFld_ok q
    have hg : g0 = f := by
      obtain ⟨a, c, dx, xs, As, _, _, _, h3⟩ := S.objAt hk e1
      exact names_at h3 hj e2
    subst hg
    obtain ⟨a, c, dx, xs, b, ys, e, h1, h2, nm, h3, nb, h4, r1, _⟩ := S.fldMutK hk e1 fo hj e2
    refine ⟨_, e, a, c, dx, xs, .ref b, rfl, h2, (T c h1).1, (T c h1).2, lookup_at (by rw [nm]; exact hnd) h3, b, rfl, .inl ⟨_, .inl h4⟩, ?_⟩
    refine he.run _ _ _ _ _ _ tk S ?_
    cases q1 : g r with
    | stuck => rw [q1] at P; exact P.elim
    | exc z => rw [q1] at P; exact P.elim
    | ok d =>
      rw [q1] at P
      dsimp only [onR, noX] at P
      intro v Hs' H' g1 k1
      split at P
      · rename_i k qk
        have ev := keyOf_rb k1.rb qk
        subst ev
        split at P
        · rename_i d2 C' fs' ev2 er2
          rw [e1] at er2
          cases er2
          obtain ⟨a', c', dx', xs', b', ys', e', h1', h2', nm', h3', nb', h4', r1', up⟩ := (S.grow g1).fldMutK hk e1 fo hj e2
          rw [e] at e'
          cases e'
          have eb : b' = b := by
            have z := g1.h.at _ _ h2
            rw [h2'] at z
            cases z
            rw [h3] at h3'
            cases h3'
            rfl
          subst eb
          obtain ⟨v2, ev3, _⟩ := r1'.at_ k ev2
          exact ⟨ys', k, v2, h4', rfl, ev3, P _ _ _ (up _ _ (r1'.del k))⟩
        · exact P.elim
      · exact P.elim
theorem ss_fldPutK (hu : X.A.units + 65 < cLine) (T : FldOk X.K E.cl C f) (he : SE X E ks .bor e g) (he2 : SE X E ks .val e2 g2) (hnd : (kk.map (·.1)).Nodup) (hq : NmOk x) (hk : ks[i]? = some (.obj n kk) := by rfl) (hj : kk[j]? = some (f, .own m0) := by rfl)
    (fo : (Kd.obj n kk).fine = true := by rfl) (hN : X.N[i]? = some x := by rfl) (hv : Vis X.env.scope x := by first | exact Or.inl rfl | exact Or.inr (Or.inl rfl) | exact Or.inr (Or.inr rfl))
    (hs : swapsWith e2 (some (.Subscript (.Attribute (.Name x p1) f p0) e p2)) pos.line X.env = pure false := by rfl)
    (hb : attributeBase (.Name x p1) f X.env (eval (.Name x p1) X.env) = eval (.Name x p1) X.env := by rfl) :
    SS X E kr fin ks (.Assign [.Subscript (.Attribute (.Name x p1) f p0) e p2] e2 pos) (mFldPutK C f i j g g2) ks := by
  refine ⟨fun Hs H r σ W Dn tk S P => ?_⟩
  refine ws_of (ps_dput (by omega) (pe_fld (pe_var hN hv hq.1 hq.2) hb) pe_we pe_we hs) ?_
  unfold mFldPutK at P
  refine he2.run _ _ _ _ _ _ tk S ?_
  cases q2 : g2 r with
  | stuck => rw [q2] at P; exact P.elim
  | exc z => rw [q2] at P; exact P.elim
  | ok d2 =>
  rw [q2] at P
  intro v2 Hs1 H1 g1 k1
  have P1 := P
  dsimp only [onR, noX] at P1
  have S1 := S.grow g1
  cases q : gFld C i j r with
  | stuck => rw [q] at P1; exact P1.elim
  | exc x => exact (gFld_exc q).elim
  | ok d0 =>
    rw [q] at P1
    dsimp only [onR, noX] at P1
    cases d0 <;> first | exact P1.elim | skip
    rename_i es
    obtain ⟨fs, g0, e1, e2⟩ := gFld_ok q
    have hg : g0 = f := by
      obtain ⟨a, c, dx, xs, As, _, _, _, h3⟩ := S1.objAt hk e1
      exact names_at h3 hj e2
    subst hg
    obtain ⟨a, c, dx, xs, b, ys, e, h1, h2, nm, h3, nb, h4, r1, _⟩ := S1.fldMutK hk e1 fo hj e2
    refine ⟨_, e, a, c, dx, xs, .ref b, rfl, h2, (T c h1).1, (T c h1).2, lookup_at (by rw [nm]; exact hnd) h3, ?_⟩
    refine he.run _ _ _ _ _ _ tk S1 ?_
    cases q1 : g r with
    | stuck => rw [q1] at P1; exact P1.elim
    | exc z => rw [q1] at P1; exact P1.elim
    | ok d =>
      rw [q1] at P1
      dsimp only [onR, noX] at P1
      intro v Hs' H' g2 k2
      split at P1
      · rename_i k qk
        have ev := keyOf_rb k2.rb qk
        subst ev
        rw [e1] at P1
        dsimp only at P1
        split at P1
        · rename_i hz
          obtain ⟨a', c', dx', xs', b', ys', e', h1', h2', nm', h3', nb', h4', r1', up⟩ := (S1.grow g2).fldMutK hk e1 fo hj e2
          rw [e] at e'
          cases e'
          have eb : b' = b := by
            have z := g2.h.at _ _ h2
            rw [h2'] at z
            cases z
            rw [h3] at h3'
            cases h3'
            rfl
          subst eb
          exact ⟨b', _, rfl, DPut.k h4' (by rw [szL_eq, r1'.len]; exact hz), P1 _ _ _ (up _ _ (r1'.put k (Rep.same g2.s _ _ k1.rep)))⟩
        · exact P1.elim
      · exact P1.elim
/-- an if whose test raises nothing -/
@[simp] def gNoT (tc : Sl → R Bool) : Sl → R Bool := fun r => noX (tc r)
theorem ss_ifN {fin : List Kd → Prop} {kr : Kd} {ks ks' : List Kd} {c : Expr} {a b : List Stmt} {tc : Sl → R Bool} {m1 m2 : Sl → O} {pos : Pos} (hc : ST X E ks c tc) (ha : SB X E kr fin ks a m1 ks') (hb : SB X E kr fin ks b m2 ks') : SS X E kr fin ks (.If c a b pos) (mIf (gNoT tc) m1 m2) ks' := by
  refine ⟨fun Hs H r σ W Dn tk S P => ?_⟩
  refine ws_of (ps_if pt_wt pss_ws pss_ws) ?_
  refine hc.run _ _ _ _ _ _ tk S ?_
  unfold mIf gNoT at P
  cases q : tc r with
  | stuck => rw [q] at P; exact P
  | exc x => rw [q] at P; exact P.elim
  | ok x =>
    rw [q] at P
    intro Hs' H' g1
    cases x with
    | true => exact iteT (ha.run _ _ _ _ _ _ tk (S.grow g1) P)
    | false => exact iteF (hb.run _ _ _ _ _ _ tk (S.grow g1) P)
/-- a block that the plain function doesn't tell -/
theorem sb_stuck {fin : List Kd → Prop} {kr : Kd} {ks ks' : List Kd} {st : List Stmt} : SB X E kr fin ks st (fun _ => .stuck) ks' := ⟨fun _ _ _ _ _ _ _ _ P => P.elim⟩
end
end VL
end

noncomputable section
namespace CW
open PySem PySem.Spec PyProof.Rows L2 VL
def b_look_row_1 : Sl → O := (mSeq (mIf (gTest (gBin dLe (gBin dIdx (gVar 0) (gVar 1)) (gBin dIdx (gVar 0) (gBin dSub (gVar 1) (gC (.int 1))))))
  (mSeq (mRaiseAt "BadRow" (gVar 1))
  mNil)
  mNil)
  mNil)
def m_look_row : Sl → O := (mSeq (mIf (gTest (gBin dGt (gCall fLen (gCons (gVar 0) gNil)) (gC (.int 60))))
  (mSeq (mRaise "TooMany")
  mNil)
  mNil)
  (mSeq (mFor (gRange2 (gC (.int 1)) (gCall fLen (gCons (gVar 0) gNil))) (.one 1) b_look_row_1)
  mNil))
def f_look_row : List D → R D := runF m_look_row 1

def m_mirrored : Sl → O := (mSeq (mExpr (gCall f_look_row (gCons (gVar 0) gNil)))
  (mSeq (mRet (gComp (gReversed (gVar 0)) (.one 1) [1] gYes (gUn dNeg (gVar 1))))
  mNil))
def f_mirrored : List D → R D := runF m_mirrored 1

def m_look_creel : Sl → O := (mSeq (mIf (gTest (gBin dLt (gVar 0) (gC (.int 1))))
  (mSeq (mRaise "BadCreel")
  mNil)
  mNil)
  mNil)
def f_look_creel : List D → R D := runF m_look_creel 0

def m_share : Sl → O := (mSeq (mRet (gCall fSum (gCons (gComp (gIter (gVar 0)) (.tup [2, 3]) [2, 3] gYes (gCall fMin2 (gCons (gVar 1) (gCons (gVar 2) gNil)))) gNil)))
  mNil)
def f_share : List D → R D := runF m_share 2

def m_mark : Sl → O := (mSeq (mRet (gBin dSub (gVar 2) (gBin dMul (gC (.int 2)) (gCall f_share (gCons (gVar 0) (gCons (gVar 1) gNil))))))
  mNil)
def f_mark : List D → R D := runF m_mark 0

def b_longest_ripe_1 : Sl → O := (mSeq (mIf (gAnd (gTest (gBin dGt (gVar 3) (gVar 2))) (gTest (gBin dEq (gVar 4) (gCall f_mark (gCons (gVar 0) (gCons (gVar 3) (gCons (gVar 1) gNil)))))))
  (mSeq (mSet 2 (gVar 3))
  mNil)
  mNil)
  mNil)
def m_longest_ripe : Sl → O := (mSeq (mSet 2 (gC (.int 0)))
  (mSeq (mFor (gIter (gVar 0)) (.tup [3, 4]) b_longest_ripe_1)
  (mSeq (mRet (gVar 2))
  mNil)))
def f_longest_ripe : List D → R D := runF m_longest_ripe 3

def m_grown : Sl → O := (mSeq (mSet 2 (gCall f_longest_ripe (gCons (gVar 0) (gCons (gBin dSub (gVar 1) (gC (.int 1))) gNil))))
  (mSeq (mSet 3 (gCall fList (gCons (gVar 0) gNil)))
  (mSeq (mIf (gTest (gBin dGt (gVar 2) (gC (.int 0))))
  (mSeq (mRem 3 (gTup (gCons (gVar 2) (gCons (gCall f_mark (gCons (gVar 0) (gCons (gVar 2) (gCons (gBin dSub (gVar 1) (gC (.int 1))) gNil)))) gNil))))
  mNil)
  mNil)
  (mSeq (mSet 4 (gBin dAdd (gBin dAdd (gCall f_share (gCons (gVar 3) (gCons (gBin dAdd (gVar 2) (gC (.int 1))) gNil))) (gVar 2)) (gC (.int 1))))
  (mSeq (mApp 3 (gTup (gCons (gBin dAdd (gVar 2) (gC (.int 1))) (gCons (gBin dSub (gVar 1) (gBin dMul (gC (.int 2)) (gVar 4))) gNil))))
  (mSeq (mRetV 3)
  mNil))))))
def f_grown : List D → R D := runF m_grown 3

def b_list_of_1 : Sl → O := (mSeq (mSet 1 (gCall f_grown (gCons (gVar 1) (gCons (gVar 2) gNil))))
  mNil)
def m_list_of : Sl → O := (mSeq (mSet 1 (gLst gNil))
  (mSeq (mFor (gIter (gVar 0)) (.one 2) b_list_of_1)
  (mSeq (mRet (gCall fSorted (gCons (gVar 1) gNil)))
  mNil)))
def f_list_of : List D → R D := runF m_list_of 2

def m_next_place : Sl → O := (mSeq (mRet (gCall fMax1 (gCons (gComp (gIter (gVar 0)) (.tup [1, 2]) [1, 2] gYes (gBin dAdd (gVar 2) (gBin dMul (gC (.int 2)) (gCall f_share (gCons (gVar 0) (gCons (gVar 1) gNil)))))) gNil)))
  mNil)
def f_next_place : List D → R D := runF m_next_place 2

def m_shortest_ripe : Sl → O := (mSeq (mRet (gCall fMin1 (gCons (gComp (gIter (gVar 0)) (.tup [2, 3]) [2, 3] (gTest (gBin dEq (gVar 3) (gCall f_mark (gCons (gVar 0) (gCons (gVar 2) (gCons (gVar 1) gNil)))))) (gVar 2)) gNil)))
  mNil)
def f_shortest_ripe : List D → R D := runF m_shortest_ripe 2

def m_shrunk : Sl → O := (mSeq (mSet 2 (gCall f_shortest_ripe (gCons (gVar 0) (gCons (gVar 1) gNil))))
  (mSeq (mSet 3 (gCall fList (gCons (gVar 0) gNil)))
  (mSeq (mRem 3 (gTup (gCons (gVar 2) (gCons (gCall f_mark (gCons (gVar 0) (gCons (gVar 2) (gCons (gVar 1) gNil)))) gNil))))
  (mSeq (mIf (gTest (gBin dGt (gVar 2) (gC (.int 1))))
  (mSeq (mSet 4 (gBin dSub (gBin dAdd (gCall f_share (gCons (gVar 3) (gCons (gBin dSub (gVar 2) (gC (.int 1))) gNil))) (gVar 2)) (gC (.int 1))))
  (mSeq (mApp 3 (gTup (gCons (gBin dSub (gVar 2) (gC (.int 1))) (gCons (gBin dSub (gBin dSub (gVar 1) (gC (.int 1))) (gBin dMul (gC (.int 2)) (gVar 4))) gNil))))
  mNil))
  mNil)
  (mSeq (mRetV 3)
  mNil)))))
def f_shrunk : List D → R D := runF m_shrunk 3

def b_stones_of_1 : Sl → O := (mSeq (mSet 2 (gCall f_next_place (gCons (gVar 0) gNil)))
  (mSeq (mApp 1 (gVar 2))
  (mSeq (mSet 0 (gCall f_shrunk (gCons (gVar 0) (gCons (gVar 2) gNil))))
  mNil)))
def m_stones_of : Sl → O := (mSeq (mSet 1 (gLst gNil))
  (mSeq (whileL (gTest (gBin dNe (gVar 0) (gLst gNil))) b_stones_of_1 WB)
  (mSeq (mRet (gUn dRev (gVar 1)))
  mNil)))
def f_stones_of : List D → R D := runF m_stones_of 2

def b_look_walks_1 : Sl → O := (mSeq (mExpr (gCall f_look_creel (gCons (gVar 1) gNil)))
  mNil)
def m_look_walks : Sl → O := (mSeq (mFor (gIter (gVar 0)) (.tup [1, 2]) b_look_walks_1)
  mNil)
def f_look_walks : List D → R D := runF m_look_walks 2

def m_by_walks : Sl → O := (mSeq (mRet (gCall fSum (gCons (gComp (gIter (gVar 0)) (.tup [2, 3]) [2, 3] gYes (gBin dMul (gVar 3) (gCall fMin2 (gCons (gVar 2) (gCons (gVar 1) gNil))))) gNil)))
  mNil)
def f_by_walks : List D → R D := runF m_by_walks 2

def m_added_to : Sl → O := (mSeq (mRet (gCall fSorted (gCons (gComp (gIter (gVar 0)) (.tup [2, 3]) [2, 3] gYes (gTup (gCons (gVar 2) (gCons (gBin dAdd (gVar 3) (gCall f_by_walks (gCons (gVar 1) (gCons (gVar 2) gNil)))) gNil)))) gNil)))
  mNil)
def f_added_to : List D → R D := runF m_added_to 2

def m_far : Sl → O := (mSeq (mExpr (gCall f_look_row (gCons (gVar 0) gNil)))
  (mSeq (mExpr (gCall f_look_walks (gCons (gVar 1) gNil)))
  (mSeq (mRet (gCall f_stones_of (gCons (gCall f_added_to (gCons (gCall f_list_of (gCons (gVar 0) gNil)) (gCons (gVar 1) gNil))) gNil)))
  mNil)))
def f_far : List D → R D := runF m_far 0

def m_laid_behind : Sl → O := (mSeq (mIf (gOr (gTest (gBin dEq (gVar 0) (gLst gNil))) (gTest (gBin dEq (gVar 1) (gLst gNil))))
  (mSeq (mRaise "Bare")
  mNil)
  mNil)
  (mSeq (mIf (gTest (gBin dGt (gBin dAdd (gCall fLen (gCons (gVar 0) gNil)) (gCall fLen (gCons (gVar 1) gNil))) (gC (.int 60))))
  (mSeq (mRaise "TooMany")
  mNil)
  mNil)
  (mSeq (mIf (gTest (gBin dLt (gVar 2) (gCall fLen (gCons (gVar 1) gNil))))
  (mSeq (mRaise "TooNear")
  mNil)
  mNil)
  (mSeq (mSet 3 (gBin dSub (gBin dAdd (gBin dAdd (gBin dIdx (gVar 0) (gUn dNeg (gC (.int 1)))) (gVar 2)) (gC (.int 1))) (gBin dIdx (gVar 1) (gC (.int 0)))))
  (mSeq (mRet (gBin dAdd (gVar 0) (gComp (gIter (gVar 1)) (.one 4) [4] gYes (gBin dAdd (gVar 4) (gVar 3)))))
  mNil)))))
def f_laid_behind : List D → R D := runF m_laid_behind 2

def m_put_in : Sl → O := (mSeq (mIf (gTest (gBin dIn (gVar 1) (gVar 0)))
  (mSeq (mRaise "Laid")
  mNil)
  mNil)
  (mSeq (mIf (gTest (gBin dGe (gCall fLen (gCons (gVar 0) gNil)) (gC (.int 60))))
  (mSeq (mRaise "TooMany")
  mNil)
  mNil)
  (mSeq (mRet (gCall fSorted (gCons (gBin dAdd (gVar 0) (gLst (gCons (gVar 1) gNil))) gNil)))
  mNil)))
def f_put_in : List D → R D := runF m_put_in 0

def m_taken_out : Sl → O := (mSeq (mIf (gTest (gBin dNotIn (gVar 1) (gVar 0)))
  (mSeq (mRaise "NoStone")
  mNil)
  mNil)
  (mSeq (mRet (gComp (gIter (gVar 0)) (.one 2) [2] (gTest (gBin dNe (gVar 2) (gVar 1))) (gVar 2)))
  mNil))
def f_taken_out : List D → R D := runF m_taken_out 1

def m_behind_entry : Sl → O := (mSeq (mIf (gTest (gBin dEq (gBin dIdx (gVar 1) (gC (.int 0))) (gC (.str "walk"))))
  (mSeq (mRet (gCall f_far (gCons (gVar 0) (gCons (gLst (gCons (gTup (gCons (gBin dIdx (gVar 1) (gC (.int 1))) (gCons (gBin dIdx (gVar 1) (gC (.int 2))) gNil))) gNil)) gNil))))
  mNil)
  mNil)
  (mSeq (mIf (gTest (gBin dEq (gBin dIdx (gVar 1) (gC (.int 0))) (gC (.str "put"))))
  (mSeq (mRet (gCall f_put_in (gCons (gVar 0) (gCons (gBin dIdx (gVar 1) (gC (.int 1))) gNil))))
  mNil)
  mNil)
  (mSeq (mIf (gTest (gBin dEq (gBin dIdx (gVar 1) (gC (.int 0))) (gC (.str "take"))))
  (mSeq (mRet (gCall f_taken_out (gCons (gVar 0) (gCons (gBin dIdx (gVar 1) (gC (.int 1))) gNil))))
  mNil)
  mNil)
  (mSeq (mIf (gTest (gBin dEq (gBin dIdx (gVar 1) (gC (.int 0))) (gC (.str "mirror"))))
  (mSeq (mRet (gCall f_mirrored (gCons (gVar 0) gNil)))
  mNil)
  mNil)
  (mSeq (mRet (gCall f_laid_behind (gCons (gVar 0) (gCons (gCall fList (gCons (gBin dIdx (gVar 1) (gC (.int 1))) gNil)) (gCons (gBin dIdx (gVar 1) (gC (.int 2))) gNil)))))
  mNil)))))
def f_behind_entry : List D → R D := runF m_behind_entry 0

def b_gone_over_1 : Sl → O := (mSeq (mTry (mSeq (mSet 0 (gCall f_behind_entry (gCons (gVar 0) (gCons (gBin dIdx (gVar 1) (gVar 2)) gNil))))
  mNil) [⟨"CreelError", none, fun x => (fun _ => .stuck)⟩])
  mNil)
def m_gone_over : Sl → O := (mSeq (mFor (gRange1 (gCall fLen (gCons (gVar 1) gNil))) (.one 2) b_gone_over_1)
  (mSeq (mRet (gVar 0))
  mNil))
def f_gone_over : List D → R D := runF m_gone_over 1

def m_Road___init__ : Sl → O := (mSeq (mFldNew "Road" "first" 0 (gVar 1))
  (mSeq (mFldNew "Road" "entries" 0 (gVar 2))
  (mSeq (mFldNew "Road" "now" 0 (gVar 3))
  mNil)))
def f_Road___init__ : List D → O := runIni m_Road___init__ 0

def m_Road_behind_one : Sl → O := (mSeq (mRet (gCall (dMake "Road" f_Road___init__) (gCons (gUn (oAt "Road" "first") (gVar 0)) (gCons (gBin dAdd (gUn (oAt "Road" "entries") (gVar 0)) (gLst (gCons (gVar 1) gNil))) (gCons (gCall f_behind_entry (gCons (gUn (oAt "Road" "now") (gVar 0)) (gCons (gVar 1) gNil))) gNil)))))
  mNil)
def f_Road_behind_one : List D → R D := runF m_Road_behind_one 0

def m_Road_anew : Sl → O := (mSeq (mRet (gCall (dMake "Road" f_Road___init__) (gCons (gUn (oAt "Road" "first") (gVar 0)) (gCons (gVar 1) (gCons (gCall f_gone_over (gCons (gUn (oAt "Road" "first") (gVar 0)) (gCons (gVar 1) gNil))) gNil)))))
  mNil)
def f_Road_anew : List D → R D := runF m_Road_anew 0

def m_is_name : Sl → O := (mSeq (mRet (vAnd (gChain dLe dLe (gC (.int 1)) (gCall fLen (gCons (gVar 0) gNil)) (gC (.int 8))) (gCall fAll (gCons (gComp (gIter (gVar 0)) (.one 1) [1] gYes (gBin dIn (gVar 1) (gC (.str "abcdefghijklmnopqrstuvwxyz")))) gNil))))
  mNil)
def f_is_name : List D → R D := runF m_is_name 1

def m_House___init__ : Sl → O := (mSeq (mFldNew "House" "by_name" 0 (gC (.dct [])))
  (mSeq (mFldNew "House" "done" 0 (gLst gNil))
  (mSeq (mFldNew "House" "gone" 0 (gLst gNil))
  mNil)))
def f_House___init__ : List D → O := runIni m_House___init__ 0

def m_House_road : Sl → O := (mSeq (mIf (gTest (gBin dDout (gVar 1) (gUn (oAt "House" "by_name") (gVar 0))))
  (mSeq (mRaise "NoRoad")
  mNil)
  mNil)
  (mSeq (mRet (gBin dDix (gUn (oAt "House" "by_name") (gVar 0)) (gVar 1)))
  mNil))
def f_House_road : List D → R D := runF m_House_road 0

def m_House_become : Sl → O := (mSeq (mFldApp "House" "done" 0 1 (gTup (gCons (gVar 1) (gCons (gFld "House" 0 0) gNil))))
  (mSeq (mFldPut "House" "gone" 0 2 (gLst gNil))
  (mSeq (mFldPut "House" "by_name" 0 0 (gCall fDictD (gCons (gFld "House" 0 0) gNil)))
  (mSeq (mIf (gNoT (gTest (gUn dIsN (gVar 3))))
  (mSeq (mFldPopK "House" "by_name" 0 0 (gVar 2))
  mNil)
  (mSeq (mFldPutK "House" "by_name" 0 0 (gVar 2) (gVar 3))
  mNil))
  mNil))))
def f_House_become : List D → O := runM m_House_become 1 0

def m_House_build : Sl → O := (mSeq (mIf (gNot (gTest (gCall f_is_name (gCons (gVar 1) gNil))))
  (mSeq (mRaise "BadName")
  mNil)
  mNil)
  (mSeq (mIf (gTest (gBin dDin (gVar 1) (gFld "House" 0 0)))
  (mSeq (mRaise "Taken")
  mNil)
  mNil)
  (mSeq (mExpr (gCall f_look_row (gCons (gVar 2) gNil)))
  (mSeq (mIf (gTest (gBin dGe (gCall fLenD (gCons (gFld "House" 0 0) gNil)) (gC (.int 8))))
  (mSeq (mRaise "Full")
  mNil)
  mNil)
  (mSeq (mExprX (mMeth "House" 0 f_House_become (gCons (gTup (gCons (gC (.str "build")) (gCons (gVar 1) (gCons (gCall fTuple (gCons (gVar 2) gNil)) gNil)))) (gCons (gVar 1) (gCons (gCall (dMake "Road" f_Road___init__) (gCons (gCall fList (gCons (gVar 2) gNil)) (gCons (gLst gNil) (gCons (gCall fList (gCons (gVar 2) gNil)) gNil)))) gNil)))))
  mNil)))))
def f_House_build : List D → O := runM m_House_build 1 0

def m_House_walk : Sl → O := (mSeq (mSet 4 (gMethR "House" "road" f_House_road (gVar 0) (gCons (gVar 1) gNil)))
  (mSeq (mExpr (gCall f_look_creel (gCons (gVar 2) gNil)))
  (mSeq (mExprX (mMeth "House" 0 f_House_become (gCons (gTup (gCons (gC (.str "walk")) (gCons (gVar 1) (gCons (gVar 2) (gCons (gVar 3) gNil))))) (gCons (gVar 1) (gCons (gMethR "Road" "behind_one" f_Road_behind_one (gVar 4) (gCons (gTup (gCons (gC (.str "walk")) (gCons (gVar 2) (gCons (gVar 3) gNil)))) gNil)) gNil)))))
  mNil)))
def f_House_walk : List D → O := runM m_House_walk 1 1

def m_House_put : Sl → O := (mSeq (mSet 3 (gMethR "House" "road" f_House_road (gVar 0) (gCons (gVar 1) gNil)))
  (mSeq (mExprX (mMeth "House" 0 f_House_become (gCons (gTup (gCons (gC (.str "put")) (gCons (gVar 1) (gCons (gVar 2) gNil)))) (gCons (gVar 1) (gCons (gMethR "Road" "behind_one" f_Road_behind_one (gVar 3) (gCons (gTup (gCons (gC (.str "put")) (gCons (gVar 2) gNil))) gNil)) gNil)))))
  mNil))
def f_House_put : List D → O := runM m_House_put 1 1

def m_House_late : Sl → O := (mSeq (mSet 5 (gMethR "House" "road" f_House_road (gVar 0) (gCons (gVar 1) gNil)))
  (mSeq (mIf (gOr (gTest (gBin dLt (gVar 2) (gC (.int 0)))) (gTest (gBin dGt (gVar 2) (gCall fLen (gCons (gUn (oAt "Road" "entries") (gVar 5)) gNil)))))
  (mSeq (mRaise "NoEntry")
  mNil)
  mNil)
  (mSeq (mExpr (gCall f_look_creel (gCons (gVar 3) gNil)))
  (mSeq (mSet 6 (gMethR "Road" "anew" f_Road_anew (gVar 5) (gCons (gBin dAdd (gBin dAdd (gSl (gUn (oAt "Road" "entries") (gVar 5)) gNoPart (gPart (gVar 2))) (gLst (gCons (gTup (gCons (gC (.str "walk")) (gCons (gVar 3) (gCons (gVar 4) gNil)))) gNil))) (gSl (gUn (oAt "Road" "entries") (gVar 5)) (gPart (gVar 2)) gNoPart)) gNil)))
  (mSeq (mExprX (mMeth "House" 0 f_House_become (gCons (gTup (gCons (gC (.str "late")) (gCons (gVar 1) (gCons (gVar 2) (gCons (gVar 3) (gCons (gVar 4) gNil)))))) (gCons (gVar 1) (gCons (gVar 6) gNil)))))
  mNil)))))
def f_House_late : List D → O := runM m_House_late 1 2

def m_House_strike : Sl → O := (mSeq (mSet 3 (gMethR "House" "road" f_House_road (gVar 0) (gCons (gVar 1) gNil)))
  (mSeq (mIf (gOr (gTest (gBin dLt (gVar 2) (gC (.int 0)))) (gTest (gBin dGe (gVar 2) (gCall fLen (gCons (gUn (oAt "Road" "entries") (gVar 3)) gNil)))))
  (mSeq (mRaise "NoEntry")
  mNil)
  mNil)
  (mSeq (mIf (gTest (gBin dNe (gBin dIdx (gBin dIdx (gUn (oAt "Road" "entries") (gVar 3)) (gVar 2)) (gC (.int 0))) (gC (.str "walk"))))
  (mSeq (mRaise "NotWalk")
  mNil)
  mNil)
  (mSeq (mSet 4 (gMethR "Road" "anew" f_Road_anew (gVar 3) (gCons (gBin dAdd (gSl (gUn (oAt "Road" "entries") (gVar 3)) gNoPart (gPart (gVar 2))) (gSl (gUn (oAt "Road" "entries") (gVar 3)) (gPart (gBin dAdd (gVar 2) (gC (.int 1)))) gNoPart)) gNil)))
  (mSeq (mExprX (mMeth "House" 0 f_House_become (gCons (gTup (gCons (gC (.str "strike")) (gCons (gVar 1) (gCons (gVar 2) gNil)))) (gCons (gVar 1) (gCons (gVar 4) gNil)))))
  mNil)))))
def f_House_strike : List D → O := runM m_House_strike 1 2

def m_House_row : Sl → O := (mSeq (mRet (gCall fList (gCons (gUn (oAt "Road" "now") (gMethR "House" "road" f_House_road (gVar 0) (gCons (gVar 1) gNil))) gNil)))
  mNil)
def f_House_row : List D → R D := runF m_House_row 0

def m_House_log : Sl → O := (mSeq (mRet (gCall fList (gCons (gUn (oAt "Road" "entries") (gMethR "House" "road" f_House_road (gVar 0) (gCons (gVar 1) gNil))) gNil)))
  mNil)
def f_House_log : List D → R D := runF m_House_log 0

def b_numbers_L_1 : Sl → O := (mSeq (mIf (gTest (gBin dGt (gVar 5) (gC (.int 0))))
  (mSeq (mApp 2 (gBin dMod (gVar 5) (gC (.int 1013))))
  (mSeq (mSet 5 (gBin dFdiv (gVar 5) (gC (.int 1013))))
  mNil))
  mNil)
  mNil)
def b_numbers_L_2 : Sl → O := (mSeq (mSet 3 (gBin dMod (gBin dAdd (gBin dAdd (gBin dMul (gVar 3) (gC (.int 40014))) (gBin dMod (gVar 4) (gC (.int 999983)))) (gC (.int 29))) (gC (.int 2147483563))))
  (mSeq (mSet 5 (gBin dSub (gVar 4) (gBin dPow (gC (.int 10)) (gC (.int 18)))))
  (mSeq (mIf (gTest (gBin dLt (gVar 5) (gC (.int 0))))
  (mSeq (mApp 2 (gBin dMod (gVar 4) (gC (.int 9967))))
  mNil)
  mNil)
  (mSeq (mFor (gRange1 (gC (.int 60))) (.one 6) b_numbers_L_1)
  mNil))))
def b_numbers_L_3 : Sl → O := (mSeq (mSet 3 (gBin dMod (gBin dAdd (gBin dAdd (gBin dAdd (gBin dMul (gVar 3) (gVar 3)) (gBin dMul (gC (.int 52774)) (gVar 3))) (gBin dMul (gC (.int 13)) (gCall fLen (gCons (gVar 2) gNil)))) (gC (.int 7))) (gC (.int 2147483629))))
  (mSeq (mApp 2 (gBin dMod (gBin dFdiv (gVar 3) (gC (.int 1019))) (gC (.int 9967))))
  mNil))
def m_numbers_L : Sl → O := (mSeq (mSet 2 (gLst gNil))
  (mSeq (mSet 3 (gC (.int 59)))
  (mSeq (mFor (gIter (gSlS (gVar 0) gNoPart (gPart (gC (.int 63))))) (.one 4) b_numbers_L_2)
  (mSeq (whileL (gTest (gBin dLt (gCall fLen (gCons (gVar 2) gNil)) (gVar 1))) b_numbers_L_3 WB)
  (mSeq (mRet (gSl (gVar 2) gNoPart (gPart (gVar 1))))
  mNil)))))
def f_numbers_L : List D → R D := runF m_numbers_L 5

def b_row_L_1 : Sl → O := (mSeq (mSet 5 (gBin dIdx (gVar 0) (gBin dAdd (gC (.int 3)) (gVar 4))))
  (mSeq (mSet 2 (gBin dAdd (gBin dAdd (gVar 2) (gC (.int 1))) (gIf (gTest (gBin dEq (gBin dMod (gVar 5) (gC (.int 3))) (gC (.int 0)))) (gC (.int 0)) (gBin dMod (gBin dFdiv (gVar 5) (gC (.int 3))) (gBin dIdx (gLst (gCons (gC (.int 2)) (gCons (gC (.int 3)) (gCons (gC (.int 5)) (gCons (gC (.int 12)) gNil))))) (gBin dMod (gBin dIdx (gVar 0) (gC (.int 2))) (gC (.int 4))))))))
  (mSeq (mApp 3 (gVar 2))
  mNil)))
def m_row_L : Sl → O := (mSeq (mSet 2 (gBin dSub (gBin dMod (gBin dIdx (gVar 0) (gC (.int 0))) (gC (.int 31))) (gC (.int 15))))
  (mSeq (mSet 3 (gLst gNil))
  (mSeq (mFor (gRange1 (gBin dMod (gBin dIdx (gVar 0) (gC (.int 1))) (gBin dAdd (gVar 1) (gC (.int 1))))) (.one 4) b_row_L_1)
  (mSeq (mRetV 3)
  mNil))))
def f_row_L : List D → R D := runF m_row_L 4

def m_long_row_L : Sl → O := (mSeq (mSet 2 (gCall f_row_L (gCons (gVar 0) (gCons (gVar 1) gNil))))
  (mSeq (mSet 3 (gBin dMod (gBin dFdiv (gBin dIdx (gVar 0) (gC (.int 2))) (gC (.int 4))) (gBin dAdd (gCall fLen (gCons (gVar 2) gNil)) (gC (.int 1)))))
  (mSeq (mSet 4 (gBin dIdx (gLst (gCons (gC (.int 0)) (gCons (gBin dPow (gC (.int 10)) (gC (.int 3))) (gCons (gBin dPow (gC (.int 10)) (gC (.int 12))) (gCons (gBin dPow (gC (.int 10)) (gC (.int 40))) gNil))))) (gBin dMod (gBin dFdiv (gBin dIdx (gVar 0) (gC (.int 2))) (gC (.int 64))) (gC (.int 4)))))
  (mSeq (mRet (gBin dAdd (gSl (gVar 2) gNoPart (gPart (gVar 3))) (gComp (gIter (gSl (gVar 2) (gPart (gVar 3)) gNoPart)) (.one 5) [5] gYes (gBin dAdd (gVar 5) (gVar 4)))))
  mNil))))
def f_long_row_L : List D → R D := runF m_long_row_L 4

def b_walks_L_1 : Sl → O := (mSeq (mSet 4 (gBin dAdd (gC (.int 1)) (gBin dMod (gBin dIdx (gVar 0) (gBin dAdd (gC (.int 1)) (gBin dMul (gC (.int 2)) (gVar 3)))) (gBin dIdx (gLst (gCons (gC (.int 3)) (gCons (gC (.int 9)) (gCons (gC (.int 70)) gNil)))) (gBin dMod (gBin dFdiv (gBin dIdx (gVar 0) (gC (.int 0))) (gC (.int 8))) (gC (.int 3)))))))
  (mSeq (mIf (gTest (gBin dEq (gBin dMod (gBin dIdx (gVar 0) (gBin dAdd (gC (.int 1)) (gBin dMul (gC (.int 2)) (gVar 3)))) (gC (.int 17))) (gC (.int 16))))
  (mSeq (mSet 4 (gBin dPow (gC (.int 10)) (gC (.int 50))))
  mNil)
  mNil)
  (mSeq (mApp 2 (gTup (gCons (gVar 4) (gCons (gBin dSub (gBin dMod (gBin dIdx (gVar 0) (gBin dAdd (gC (.int 2)) (gBin dMul (gC (.int 2)) (gVar 3)))) (gC (.int 9))) (gC (.int 4))) gNil))))
  mNil)))
def m_walks_L : Sl → O := (mSeq (mSet 2 (gLst gNil))
  (mSeq (mFor (gRange1 (gBin dMod (gBin dIdx (gVar 0) (gC (.int 0))) (gBin dAdd (gVar 1) (gC (.int 1))))) (.one 3) b_walks_L_1)
  (mSeq (mRetV 2)
  mNil)))
def f_walks_L : List D → R D := runF m_walks_L 3

def b_ten_L_1 : Sl → O := (mSeq (mSet 1 (gBin dMul (gVar 1) (gC (.int 10))))
  mNil)
def m_ten_L : Sl → O := (mSeq (mSet 1 (gC (.int 1)))
  (mSeq (mFor (gRange1 (gVar 0)) (.one 2) b_ten_L_1)
  (mSeq (mRet (gVar 1))
  mNil)))
def f_ten_L : List D → R D := runF m_ten_L 2

def b_law_1 : Sl → O := (mSeq (mApp 6 (gTup (gCons (gVar 7) (gCons (gBin dMul (gVar 8) (gCall f_ten_L (gCons (gBin dMod (gBin dIdx (gVar 1) (gBin dAdd (gC (.int 60)) (gCall fLen (gCons (gVar 6) gNil)))) (gC (.int 40))) gNil))) gNil))))
  mNil)
def b_law_2 : Sl → O := (mSeq (mExprX (mMeth "House" 3 f_House_late (gCons (gC (.str "late")) (gCons (gBin dAdd (gVar 5) (gBin dMod (gBin dIdx (gVar 1) (gBin dAdd (gC (.int 70)) (gVar 9))) (gBin dAdd (gVar 9) (gC (.int 1))))) (gCons (gBin dIdx (gVar 10) (gC (.int 0))) (gCons (gBin dIdx (gVar 10) (gC (.int 1))) gNil))))))
  (mSeq (mExprX (mMeth "House" 3 f_House_walk (gCons (gC (.str "now")) (gCons (gBin dIdx (gVar 10) (gC (.int 0))) (gCons (gBin dIdx (gVar 10) (gC (.int 1))) gNil)))))
  (mSeq (mIf (gTest (gBin dNe (gMethR "House" "row" f_House_row (gVar 3) (gCons (gC (.str "late")) gNil)) (gMethR "House" "row" f_House_row (gVar 3) (gCons (gC (.str "now")) gNil))))
  (mSeq (mRet (gC (.bl false)))
  mNil)
  mNil)
  mNil)))
def b_law_3 : Sl → O := (mSeq (mSet 11 (gBin dAdd (gVar 5) (gBin dMod (gBin dIdx (gVar 1) (gBin dAdd (gC (.int 60)) (gVar 9))) (gBin dSub (gCall fLen (gCons (gVar 6) gNil)) (gVar 9)))))
  (mSeq (mSet 12 (gBin dIdx (gMethR "House" "log" f_House_log (gVar 3) (gCons (gC (.str "late")) gNil)) (gVar 11)))
  (mSeq (mExprX (mMeth "House" 3 f_House_strike (gCons (gC (.str "late")) (gCons (gVar 11) gNil))))
  (mSeq (mExprX (mMeth "House" 3 f_House_walk (gCons (gC (.str "now")) (gCons (gBin dIdx (gVar 12) (gC (.int 1))) (gCons (gUn dNeg (gBin dIdx (gVar 12) (gC (.int 2)))) gNil)))))
  (mSeq (mIf (gTest (gBin dNe (gMethR "House" "row" f_House_row (gVar 3) (gCons (gC (.str "late")) gNil)) (gMethR "House" "row" f_House_row (gVar 3) (gCons (gC (.str "now")) gNil))))
  (mSeq (mRet (gC (.bl false)))
  mNil)
  mNil)
  mNil)))))
def m_law : Sl → O := (mSeq (mSet 1 (gCall f_numbers_L (gCons (gVar 0) (gCons (gC (.int 80)) gNil))))
  (mSeq (mSet 2 (gCall f_long_row_L (gCons (gSl (gVar 1) (gPart (gC (.int 4))) gNoPart) (gCons (gBin dIdx (gLst (gCons (gC (.int 5)) (gCons (gC (.int 12)) (gCons (gC (.int 20)) gNil)))) (gBin dMod (gBin dIdx (gVar 1) (gC (.int 0))) (gC (.int 3)))) gNil))))
  (mSeq (mSet 3 (gCall (dMake "House" f_House___init__) gNil))
  (mSeq (mExprX (mMeth "House" 3 f_House_build (gCons (gC (.str "late")) (gCons (gCall fList (gCons (gVar 2) gNil)) gNil))))
  (mSeq (mExprX (mMeth "House" 3 f_House_build (gCons (gC (.str "now")) (gCons (gCall fList (gCons (gVar 2) gNil)) gNil))))
  (mSeq (mSet 4 (gBin dAdd (gBin dAdd (gBin fMaxD (gVar 2) (gC (.int 0))) (gC (.int 2))) (gBin dMod (gBin dIdx (gVar 1) (gC (.int 1))) (gC (.int 5)))))
  (mSeq (mSet 5 (gC (.int 0)))
  (mSeq (mIf (gTest (gBin dEq (gBin dMod (gBin dIdx (gVar 1) (gC (.int 2))) (gC (.int 2))) (gC (.int 1))))
  (mSeq (mSet 5 (gC (.int 1)))
  (mSeq (mExprX (mMeth "House" 3 f_House_put (gCons (gC (.str "late")) (gCons (gVar 4) gNil))))
  (mSeq (mExprX (mMeth "House" 3 f_House_put (gCons (gC (.str "now")) (gCons (gVar 4) gNil))))
  mNil)))
  mNil)
  (mSeq (mSet 6 (gLst gNil))
  (mSeq (mFor (gIter (gCall f_walks_L (gCons (gSl (gVar 1) (gPart (gC (.int 40))) gNoPart) (gCons (gC (.int 8)) gNil)))) (.tup [7, 8]) b_law_1)
  (mSeq (mFor (gEnumerate (gVar 6)) (.tup [9, 10]) b_law_2)
  (mSeq (mIf (gTest (gBin dNe (gCall f_far (gCons (gCall fSorted (gCons (gBin dAdd (gVar 2) (gBin dMul (gLst (gCons (gVar 4) gNil)) (gVar 5))) gNil)) (gCons (gVar 6) gNil))) (gMethR "House" "row" f_House_row (gVar 3) (gCons (gC (.str "now")) gNil))))
  (mSeq (mRet (gC (.bl false)))
  mNil)
  mNil)
  (mSeq (mFor (gRange1 (gCall fLen (gCons (gVar 6) gNil))) (.one 9) b_law_3)
  (mSeq (mRet (vAnd (gBin dEq (gMethR "House" "row" f_House_row (gVar 3) (gCons (gC (.str "late")) gNil)) (gCall fSorted (gCons (gBin dAdd (gVar 2) (gBin dMul (gLst (gCons (gVar 4) gNil)) (gVar 5))) gNil))) (gBin dEq (gCall fLen (gCons (gMethR "House" "log" f_House_log (gVar 3) (gCons (gC (.str "now")) gNil)) gNil)) (gBin dAdd (gVar 5) (gBin dMul (gC (.int 2)) (gCall fLen (gCons (gVar 6) gNil)))))))
  mNil))))))))))))))
def f_law : List D → R D := runF m_law 12

theorem dRange2_gen (a b : Nat) (ha : a ≤ 16777216) (h : b ≤ 16777216) : dRange2 (.int (a : Int)) (.int (b : Int)) = .ok ((List.range' a (b - a)).map fun (i : Nat) => D.int i) := by
  dsimp only [dRange2]
  rw [if_pos (by rw [szL_val]; omega), show ((b : Int) - (a : Int)).toNat = b - a by omega]
  unfold rangeD
  rw [List.range'_eq_map_range]
  simp
def Rising (r : List Int) : Prop := r.Pairwise (· < ·)
theorem dIdx_list {ds : List D} {i : Nat} {d : D} (h : ds[i]? = some d) : dIdx (.lst ds) (.int i) = .ok d := by
  dsimp only [dIdx]
  rw [atI_nat h]
theorem int_at {l : List Int} {i : Nat} {v : Int} (h : l[i]? = some v) {j : Int} (hj : j = (i : Int)) : dIdx (.lst (l.map D.int)) (.int j) = .ok (.int v) := by
  subst hj
  refine dIdx_list ?_
  rw [List.getElem?_map, h]
  rfl
theorem int_in {l : List Int} {i : Nat} (h : i < l.length) {j : Int} (hj : j = (i : Int)) : dIdx (.lst (l.map D.int)) (.int j) = .ok (.int l[i]) := int_at (List.getElem?_eq_getElem h) hj

def Walks (ws : List (Int × Int)) : Prop := ∀ w ∈ ws, 1 ≤ w.1
def badW (ws : List (Int × Int)) : Bool := ws.any fun w => decide (w.1 < 1)
theorem forL_step {t : Tg} {mb : Sl → O} {d : D} {ds : List D} {r r' : Sl} {xs : List D} (h1 : t.un d = .ok xs) (h2 : mb (setD r t.is xs) = .nx r') : forL t mb (d :: ds) r = forL t mb ds r' := by
  show (match t.un d with
      | .ok xs => (match mb (setD r t.is xs) with
        | .nx r' => forL t mb ds r'
        | o => o)
      | _ => .stuck) = _
  rw [h1]
  dsimp only
  rw [h2]
theorem forL_first {α : Type} (F : α → D) (bad : α → Bool) (R : Sl → Prop) (out : α → Sl → O) (no : ∀ x r r2, out x r ≠ .nx r2) (t : Tg) (mb : Sl → O) : ∀ (l : List α) (r : Sl), R r → (∀ x ∈ l, ∀ r, R r → ∃ xs r', t.un (F x) = .ok xs ∧ R r' ∧ mb (setD r t.is xs) = if bad x then out x r' else .nx r') →
    ∃ r', R r' ∧ forL t mb (l.map F) r = match l.find? bad with
      | some x => out x r'
      | none => .nx r'
  | [], r, h, _ => ⟨r, h, rfl⟩
  | x :: l, r, h, k => by
    obtain ⟨xs, r1, e1, h1, e2⟩ := k x List.mem_cons_self r h
    cases c : bad x with
    | false =>
      rw [c, if_neg (by simp)] at e2
      obtain ⟨r', h3, e3⟩ := forL_first F bad R out no t mb l r1 h1 fun y hy => k y (List.mem_cons_of_mem _ hy)
      refine ⟨r', h3, ?_⟩
      rw [List.map_cons, forL_step e1 e2, e3, List.find?_cons, c]
    | true =>
      rw [c, if_pos rfl] at e2
      refine ⟨r1, h1, ?_⟩
      rw [List.find?_cons, c]
      show (match t.un (F x) with
        | .ok xs => (match mb (setD r t.is xs) with
          | .nx r' => forL t mb (l.map F) r'
          | o => o)
        | _ => .stuck) = _
      rw [e1]
      dsimp only
      rw [e2]
      cases q : out x r1 with
      | nx r2 => exact absurd q (no x r1 r2)
      | stuck => rfl
      | rt d r2 => rfl
      | exc y r2 => rfl

theorem look_walks_any (ws : List (Int × Int)) : f_look_walks [.lst (ws.map twoD)] = if badW ws then .exc ⟨"BadCreel", none⟩ else .ok .non := by
  obtain ⟨r', ⟨a, b, hr⟩, e⟩ := forL_first twoD (fun w => decide (w.1 < 1)) (fun t => ∃ a b, t = [some (.lst (ws.map twoD)), a, b]) (fun _ t => .exc ⟨"BadCreel", none⟩ t) (by intros; simp) (.tup [1, 2]) b_look_walks_1 ws [some (.lst (ws.map twoD)), none, none] ⟨none, none, rfl⟩ (fun w hw t ⟨a, b, e⟩ => by
    subst e
    refine ⟨[.int w.1, .int w.2], [some (.lst (ws.map twoD)), some (.int w.1), some (.int w.2)], rfl, ⟨_, _, rfl⟩, ?_⟩
    by_cases c : w.1 < 1 <;> simp [b_look_walks_1, f_look_creel, m_look_creel, c])
  subst hr
  have eb : badW ws = (ws.find? fun w => decide (w.1 < 1)).isSome := by
    rw [Bool.eq_iff_iff, List.find?_isSome]
    unfold badW
    rw [List.any_eq_true]
  rw [eb]
  generalize ws.find? (fun w => decide (w.1 < 1)) = fo at *
  cases fo <;> simp [f_look_walks, m_look_walks, e]
theorem forL_fold {α σ : Type} (F : α → D) (f : σ → α → σ) (R : σ → Sl → Prop) (t : Tg) (mb : Sl → O) : ∀ (l : List α) (s : σ) (r : Sl), R s r → (∀ x ∈ l, ∀ s r, R s r → ∃ xs r', t.un (F x) = .ok xs ∧ mb (setD r t.is xs) = .nx r' ∧ R (f s x) r') → ∃ r', forL t mb (l.map F) r = .nx r' ∧ R (l.foldl f s) r'
  | [], s, r, h, _ => ⟨r, rfl, h⟩
  | x :: l, s, r, h, k => by
    obtain ⟨xs, r1, e1, e2, h1⟩ := k x List.mem_cons_self s r h
    obtain ⟨r', e3, h3⟩ := forL_fold F f R t mb l (f s x) r1 h1 fun y hy => k y (List.mem_cons_of_mem _ hy)
    refine ⟨r', ?_, h3⟩
    rw [← e3]
    show (match t.un (F x) with
      | .ok xs => (match mb (setD r t.is xs) with
        | .nx r' => forL t mb (l.map F) r'
        | o => o)
      | _ => .stuck) = _
    rw [e1]
    dsimp only
    rw [e2]
theorem forL_foldI {α σ : Type} (F : α → D) (f : σ → α → σ) (R : Nat → σ → Sl → Prop) (t : Tg) (mb : Sl → O) : ∀ (l : List α) (n : Nat) (s : σ) (r : Sl), R n s r → (∀ i x, i < l.length → x ∈ l → ∀ s r, R (n + i) s r → ∃ xs r', t.un (F x) = .ok xs ∧ mb (setD r t.is xs) = .nx r' ∧ R (n + i + 1) (f s x) r') → ∃ r', forL t mb (l.map F) r = .nx r' ∧ R (n + l.length) (l.foldl f s) r'
  | [], n, s, r, h, _ => ⟨r, rfl, h⟩
  | x :: l, n, s, r, h, k => by
    obtain ⟨xs, r1, e1, e2, h1⟩ := k 0 x (by simp) List.mem_cons_self s r h
    obtain ⟨r', e3, h3⟩ := forL_foldI F f R t mb l (n + 1) (f s x) r1 h1 fun i y hi hy s r q => by
      have e : n + 1 + i = n + (i + 1) := by omega
      rw [e] at q ⊢
      exact k (i + 1) y (by simp; omega) (List.mem_cons_of_mem _ hy) s r q
    refine ⟨r', ?_, by rw [List.length_cons, show n + (l.length + 1) = n + 1 + l.length by omega]; exact h3⟩
    rw [← e3]
    show (match t.un (F x) with
      | .ok xs => (match mb (setD r t.is xs) with
        | .nx r' => forL t mb (l.map F) r'
        | o => o)
      | _ => .stuck) = _
    rw [e1]
    dsimp only
    rw [e2]
theorem whileL_fin {tc : Sl → R Bool} {mb : Sl → O} {n : Nat} {r : Sl} (h : tc r = .ok false) : whileL tc mb (n + 1) r = .nx r := by
  show onR (tc r) r _ = _
  rw [h]
  rfl
theorem whileL_turn {tc : Sl → R Bool} {mb : Sl → O} {n : Nat} {r r' : Sl} (h : tc r = .ok true) (h2 : mb r = .nx r') : whileL tc mb (n + 1) r = whileL tc mb n r' := by
  show onR (tc r) r _ = _
  rw [h]
  dsimp only [onR]
  rw [if_pos rfl, h2]
theorem dEqB_two (a b : Int × Int) : dEqB (twoD a) (twoD b) = decide (a = b) := by
  show ((a.1 == b.1) && ((a.2 == b.2) && true)) = _
  obtain ⟨a1, a2⟩ := a
  obtain ⟨b1, b2⟩ := b
  by_cases h1 : a1 = b1 <;> by_cases h2 : a2 = b2 <;> simp [h1, h2]
/-- alike as far as it matters -/
def Rc (N : Nat) (a b : List Int) : Prop := a = b ∨ ∃ C a' b', a = C ++ a' ∧ b = C ++ b' ∧ N ≤ C.length
theorem Rc.symm {N : Nat} {a b : List Int} (h : Rc N a b) : Rc N b a := by
  rcases h with h | ⟨C, a', b', h1, h2, h3⟩
  · exact .inl h.symm
  · exact .inr ⟨C, b', a', h2, h1, h3⟩
theorem erase_idx : ∀ (ps : List (Int × Int)) (x : Int × Int), x ∈ ps → ∃ j, (ps.map twoD).findIdx? (fun z => dEqB z (twoD x)) = some j ∧ (ps.map twoD).eraseIdx j = (ps.erase x).map twoD
  | [], x, h => by cases h
  | y :: ps, x, h => by
    rw [List.map_cons, List.findIdx?_cons, dEqB_two, List.erase_cons]
    by_cases e : y = x
    · exact ⟨0, by simp [e], by simp [e]⟩
    · have m : x ∈ ps := by
        rcases List.mem_cons.mp h with z | z
        · exact absurd z.symm e
        · exact z
      obtain ⟨j, e1, e2⟩ := erase_idx ps x m
      refine ⟨j + 1, by simp [e, e1], ?_⟩
      have e' : (y == x) = false := by simpa using e
      rw [e', List.eraseIdx_cons_succ, e2]
      rfl
theorem remL_ok {ps : List (Int × Int)} {x : Int × Int} (h : x ∈ ps) (hz : ps.length ≤ szL) : remL (ps.map twoD) (.tup [.int x.1, .int x.2]) = some ((ps.erase x).map twoD) := by
  obtain ⟨j, e1, e2⟩ := erase_idx ps x h
  have s1 : shp (twoD x) = true := pl_shp (n := 2) (by decide) pl_pair
  have s2 : shp (.lst (ps.map twoD)) = true := pl_shp (n := 3) (by decide) (pl_pairs hz)
  have e0 : remL (ps.map twoD) (twoD x) = some ((ps.erase x).map twoD) := by
    unfold remL
    rw [s1, s2, e1]
    simp [e2]
  exact e0
theorem ne_nil_two (ps : List (Int × Int)) (hz : ps.length ≤ 1000) : dNe (.lst (ps.map twoD)) (.lst []) = .ok (.bl (decide (ps ≠ []))) := by
  have s1 : shp (.lst (ps.map twoD)) = true := pl_shp (n := 3) (by decide) (pl_pairs (le_szL (by omega)))
  have s2 : shp (.lst ([].map twoD)) = true := pl_shp (n := 3) (by decide) (pl_pairs (le_szL (by decide)))
  have s2' : shp (.lst []) = true := s2
  unfold dNe
  rw [s1, s2']
  cases ps with
  | nil => rfl
  | cons p r => rfl
theorem app_pair (ps : List (Int × Int)) (a b : Int) : ps.map twoD ++ [D.tup [.int a, .int b]] = (ps ++ [(a, b)]).map twoD := by simp [twoD]
theorem mul2 (x : Int) : mulOk 2 x = true := mulOk_left (by decide) (by decide)
theorem ne_ints (r : List Int) (hz : r.length ≤ 1000) : dNe (.lst (r.map D.int)) (.lst (r.map D.int)) = .ok (.bl false) := dNe_self (n := 2) (by decide) (pl_ints (le_szL (by omega)))
theorem fSorted_two (ps : List (Int × Int)) : fSorted [.lst (ps.map twoD)] = .ok (.lst ((sortBy ltII ps).map twoD)) := by
  cases ps with
  | nil => rfl
  | cons p r =>
    dsimp only [fSorted]
    have e : intsOf ((p :: r).map twoD) = none := rfl
    rw [e, pairsOf_map]

/-- stones less empty niches behind s, s itself counted -/
def balN (R : List Int) (s : Int) : Nat → Int
  | 0 => 1
  | d + 1 => balN R s d + (if s + ((d : Int) + 1) ∈ R then 1 else -1)
def Clo (R : List Int) (s n : Int) : Prop := ∃ d : Nat, n = s + d ∧ balN R s d = 0 ∧ ∀ e, e < d → 1 ≤ balN R s e
def lsr (a s : Int) : Int := if a < s then a else s
def share (ps : List (Int × Int)) (s : Int) : Int := (ps.map fun p => if p.1 < s then p.1 else s).sum
theorem share_cons (p : Int × Int) (ps : List (Int × Int)) (s : Int) : share (p :: ps) s = lsr p.1 s + share ps s := by
  simp [share, lsr]
theorem share_app (ps qs : List (Int × Int)) (s : Int) : share (ps ++ qs) s = share ps s + share qs s := by
  simp [share]
theorem share_perm {ps qs : List (Int × Int)} (h : ps.Perm qs) (s : Int) : share ps s = share qs s := by
  induction h with
  | nil => rfl
  | cons x _ ih => rw [share_cons, share_cons, ih]
  | swap x y l => rw [share_cons, share_cons, share_cons, share_cons]; omega
  | trans _ _ h1 h2 => exact h1.trans h2
/-- where a train is ripe -/
def vac (ps : List (Int × Int)) (p : Int × Int) : Int := p.2 + 2 * share ps p.1
def ripes (ps : List (Int × Int)) (q : Int) : List Int := (ps.filter fun p => vac ps p == q).map (·.1)
def longest (ps : List (Int × Int)) (q : Int) : Int := if ripes ps q = [] then 0 else lmax (ripes ps q)
def grow (ps : List (Int × Int)) (p : Int) : List (Int × Int) :=
  (if 0 < longest ps (p - 1) then ps.erase (longest ps (p - 1), p - 1 - 2 * share ps (longest ps (p - 1))) else ps) ++
    [(longest ps (p - 1) + 1, p - 2 * (share (if 0 < longest ps (p - 1) then ps.erase (longest ps (p - 1), p - 1 - 2 * share ps (longest ps (p - 1))) else ps) (longest ps (p - 1) + 1) + longest ps (p - 1) + 1))]
def Posi (ps : List (Int × Int)) : Prop := ∀ p ∈ ps, 1 ≤ p.1
theorem lmax_le : ∀ {l : List Int} {x : Int}, x ∈ l → x ≤ lmax l
  | [], _, h => by cases h
  | [y], x, h => by
    have : x = y := by simpa using h
    subst this
    exact Int.le_refl _
  | y :: z :: r, x, h => by
    unfold lmax
    rcases List.mem_cons.mp h with e | h
    · subst e; exact Int.le_max_left _ _
    · exact Int.le_trans (lmax_le h) (Int.le_max_right _ _)
theorem mem_ripes {ps : List (Int × Int)} {q s : Int} : s ∈ ripes ps q ↔ (s, q - 2 * share ps s) ∈ ps := by
  constructor
  · intro h
    obtain ⟨p, hp, e⟩ := List.mem_map.mp h
    obtain ⟨h1, h2⟩ := List.mem_filter.mp hp
    have h3 : vac ps p = q := by simpa using h2
    unfold vac at h3
    have : p = (s, q - 2 * share ps s) := by
      subst e
      exact Prod.ext rfl (by show p.2 = _; omega)
    rw [← this]; exact h1
  · intro h
    refine List.mem_map.mpr ⟨_, List.mem_filter.mpr ⟨h, ?_⟩, rfl⟩
    have : vac ps (s, q - 2 * share ps s) = q := by unfold vac; show q - 2 * share ps s + 2 * share ps s = q; omega
    simpa using this
theorem lmax_mem : ∀ {l : List Int}, l ≠ [] → lmax l ∈ l
  | [], h => absurd rfl h
  | [x], _ => by simp [lmax]
  | x :: y :: r, _ => by
    have ih := lmax_mem (l := y :: r) (by simp)
    unfold lmax
    rcases Int.le_total x (lmax (y :: r)) with h | h
    · rw [Int.max_eq_right h]; exact List.mem_cons_of_mem _ ih
    · rw [Int.max_eq_left h]; exact List.mem_cons_self
theorem longest_nonneg {ps : List (Int × Int)} (h : Posi ps) (q : Int) : 0 ≤ longest ps q := by
  unfold longest
  split
  · exact Int.le_refl _
  · rename_i n
    have := h _ (mem_ripes.mp (lmax_mem n))
    have : 1 ≤ lmax (ripes ps q) := this
    omega
theorem longest_mem {ps : List (Int × Int)} {q : Int} (c : 0 < longest ps q) : (longest ps q, q - 2 * share ps (longest ps q)) ∈ ps := by
  have n : ripes ps q ≠ [] := fun z => by
    unfold longest at c
    rw [if_pos z] at c
    omega
  have e : longest ps q = lmax (ripes ps q) := by unfold longest; rw [if_neg n]
  have m := mem_ripes.mp (lmax_mem n)
  rw [← e] at m
  exact m
def zst (s o : Int) : List (Int × Int) := if 0 < s then [(s, o)] else []
theorem share_z {s o i : Int} (hs : 0 ≤ s) (hi : 0 ≤ i) : share (zst s o) i = lsr s i := by
  unfold zst
  by_cases h : 0 < s
  · rw [if_pos h, share_cons]
    simp [share]
  · rw [if_neg h]
    unfold lsr
    simp [share]
    split <;> omega
/-- a train of size s (0: none) grows at q; f what its mark is put forward by -/
structure Gro (f : Int → Int) (M : List (Int × Int)) (q s : Int) (R M' : List (Int × Int)) : Prop where
  s0 : 0 ≤ s
  m : M.Perm (zst s (q - 1 + f s - 2 * share M s) ++ R)
  m' : M'.Perm ((s + 1, q + f (s + 1) - 2 - 2 * share M (s + 1)) :: R)
  top : ∀ p ∈ M, s < p.1 → vac M p ≠ q - 1 + f p.1
theorem vac_perm {M N : List (Int × Int)} (h : M.Perm N) (p : Int × Int) : vac M p = vac N p := by
  unfold vac
  rw [share_perm h]
def Stk (R : List Int) : Nat → List Int → Int → Prop
  | _, [], _ => True
  | k, s :: T, t => (∃ d : Nat, t = s + d ∧ balN R s d = (k : Int) + 1 ∧ ∀ e, e ≤ d → 1 ≤ balN R s e) ∧ Stk R (k + 1) T t
theorem Stk.new {R : List Int} {p : Int} {T : List Int} (h : Stk R 1 T p) : Stk R 0 (p :: T) p := ⟨⟨0, by omega, rfl, fun e he => by
  have : e = 0 := by omega
  rw [this]
  exact Int.le_refl 1⟩, h⟩
abbrev Run := Bool × List Int
/-- two runs alike, N places deep when they are empty ones -/
def R1 (N : Nat) (p q : Run) : Prop := p.1 = q.1 ∧ (p.1 = true → p.2 = q.2) ∧ Rc N p.2 q.2
theorem R1.refl (N : Nat) (p : Run) : R1 N p p := ⟨rfl, fun _ => rfl, .inl rfl⟩
section
variable {f : Int → Int} {M M' N N' R R' E : List (Int × Int)} {q s t : Int}
theorem Gro.share (g : Gro f M q s R M') {i : Int} (hi : 0 ≤ i) : CW.share M' i = CW.share M i + (if s < i then 1 else 0) := by
  have h0 := g.s0
  have a := share_perm g.m' i
  have b := share_perm g.m i
  rw [share_cons] at a
  rw [share_app, share_z h0 hi] at b
  have a' : CW.share M' i = lsr (s + 1) i + CW.share R i := a
  rw [a', b]
  unfold lsr
  split <;> split <;> omega
theorem Gro.perm (g : Gro f M q s R M') (h : M.Perm N) (h' : M'.Perm N') : Gro f N q s R N' where
  s0 := g.s0
  m := by rw [← share_perm h]; exact h.symm.trans g.m
  m' := by rw [← share_perm h]; exact h'.symm.trans g.m'
  top := fun p hp hs => by rw [← vac_perm h]; exact g.top p (h.mem_iff.mpr hp) hs
theorem Gro.new (g : Gro f M q s R M') : (s + 1, q + f (s + 1) - 2 - 2 * CW.share M (s + 1)) ∈ M' ∧ vac M' (s + 1, q + f (s + 1) - 2 - 2 * CW.share M (s + 1)) = q + f (s + 1) := by
  have h0 := g.s0
  refine ⟨g.m'.mem_iff.mpr List.mem_cons_self, ?_⟩
  unfold vac
  rw [g.share (i := s + 1) (by omega), if_pos (by omega)]
  show _ - 2 - 2 * CW.share M (s + 1) + 2 * (CW.share M (s + 1) + 1) = _
  omega
theorem Gro.old (g : Gro f M q s R M') {p : Int × Int} (hp : p ∈ M') (h1 : 0 ≤ p.1) : p = (s + 1, q + f (s + 1) - 2 - 2 * CW.share M (s + 1)) ∨ p ∈ R ∧ p ∈ M ∧ vac M' p = vac M p + (if s < p.1 then 2 else 0) := by
  rcases List.mem_cons.mp (g.m'.mem_iff.mp hp) with e | hr
  · exact .inl e
  · refine .inr ⟨hr, g.m.mem_iff.mpr (List.mem_append_right _ hr), ?_⟩
    unfold vac
    rw [g.share h1]
    split <;> omega
theorem Gro.picked (g : Gro f M q s R M') (hs : 0 < s) : (s, q - 1 + f s - 2 * CW.share M s) ∈ M ∧ vac M (s, q - 1 + f s - 2 * CW.share M s) = q - 1 + f s := by
  refine ⟨g.m.mem_iff.mpr (List.mem_append_left _ (by unfold zst; rw [if_pos hs]; exact List.mem_cons_self)), ?_⟩
  unfold vac
  show q - 1 + f s - 2 * CW.share M s + 2 * CW.share M s = _
  omega
theorem Gro.posi (g : Gro f M q s R M') (h : Posi M) : Posi M' := fun p hp => by
  rcases List.mem_cons.mp (g.m'.mem_iff.mp hp) with e | hr
  · rw [e]
    have := g.s0
    show 1 ≤ s + 1
    omega
  · exact h p (g.m.mem_iff.mpr (List.mem_append_right _ hr))
theorem Gro.uniq (g : Gro f M q s R M') (g2 : Gro f N q t R' N') (h : M.Perm N) : s = t ∧ M'.Perm N' := by
  have a := g.s0
  have b := g2.s0
  have st : s = t := by
    rcases Int.lt_trichotomy s t with z | z | z
    · obtain ⟨p1, p2⟩ := g2.picked (by omega)
      exact absurd ((vac_perm h _).trans p2) (g.top _ (h.mem_iff.mpr p1) z)
    · exact z
    · obtain ⟨p1, p2⟩ := g.picked (by omega)
      exact absurd ((vac_perm h _).symm.trans p2) (g2.top _ (h.mem_iff.mp p1) z)
  subst st
  refine ⟨rfl, ?_⟩
  have e : ∀ i, CW.share M i = CW.share N i := fun i => share_perm h i
  have p1 : (zst s (q - 1 + f s - 2 * CW.share N s) ++ R).Perm (zst s (q - 1 + f s - 2 * CW.share N s) ++ R') := by
    have w := g.m.symm.trans (h.trans g2.m)
    rw [e s] at w
    exact w
  have p2 : R.Perm R' := (List.perm_append_left_iff _).mp p1
  have w := g.m'
  rw [e (s + 1)] at w
  exact w.trans ((List.Perm.cons _ p2).trans g2.m'.symm)
def shf (f : Int → Int) (ps : List (Int × Int)) : List (Int × Int) := ps.map fun p => (p.1, p.2 + f p.1)
theorem share_shf (f : Int → Int) (ps : List (Int × Int)) (i : Int) : CW.share (shf f ps) i = CW.share ps i := by
  unfold CW.share shf
  rw [List.map_map]
  rfl
theorem shf_perm (h : M.Perm N) : (shf f M).Perm (shf f N) := h.map _
theorem Gro.shift (g : Gro (fun _ => 0) M q s R M') : Gro f (shf f M) q s (shf f R) (shf f M') where
  s0 := g.s0
  m := by
    rw [share_shf]
    have w := shf_perm (f := f) g.m
    have e : shf f (zst s (q - 1 + 0 - 2 * CW.share M s) ++ R) = zst s (q - 1 + f s - 2 * CW.share M s) ++ shf f R := by
      unfold shf zst
      split
      · simp
        omega
      · simp
    rw [e] at w
    exact w
  m' := by
    rw [share_shf]
    have w := shf_perm (f := f) g.m'
    have e : shf f ((s + 1, q + 0 - 2 - 2 * CW.share M (s + 1)) :: R) = (s + 1, q + f (s + 1) - 2 - 2 * CW.share M (s + 1)) :: shf f R := by
      unfold shf
      simp
      omega
    rw [e] at w
    exact w
  top := fun p hp hs => by
    obtain ⟨p0, h0, rfl⟩ := List.mem_map.mp hp
    have := g.top p0 h0 hs
    unfold vac at this ⊢
    rw [share_shf]
    dsimp only at this ⊢
    omega
theorem gro_grow (h : Posi M) (q : Int) : ∃ R, Gro (fun _ => 0) M q (longest M (q - 1)) R (grow M q) := by
  have n0 := longest_nonneg h (q - 1)
  have top : ∀ p ∈ M, longest M (q - 1) < p.1 → vac M p ≠ q - 1 + 0 := fun p hp hs e => by
    have m : p.1 ∈ ripes M (q - 1) := List.mem_map.mpr ⟨p, List.mem_filter.mpr ⟨hp, by rw [e]; simp⟩, rfl⟩
    have n : ripes M (q - 1) ≠ [] := fun w => by rw [w] at m; cases m
    have : p.1 ≤ longest M (q - 1) := by
      unfold longest
      rw [if_neg n]
      exact lmax_le m
    omega
  have lss : ∀ a : Int, lsr a (a + 1) = a := fun a => by unfold lsr; split <;> omega
  by_cases c : 0 < longest M (q - 1)
  · have pc := List.perm_cons_erase (longest_mem c)
    have sh : CW.share M (longest M (q - 1) + 1) = longest M (q - 1) + CW.share (M.erase (longest M (q - 1), q - 1 - 2 * CW.share M (longest M (q - 1)))) (longest M (q - 1) + 1) := by
      rw [share_perm pc, share_cons, lss]
    have eg : grow M q = M.erase (longest M (q - 1), q - 1 - 2 * CW.share M (longest M (q - 1))) ++ [(longest M (q - 1) + 1, q - 2 * (CW.share (M.erase (longest M (q - 1), q - 1 - 2 * CW.share M (longest M (q - 1)))) (longest M (q - 1) + 1) + longest M (q - 1) + 1))] := by
      unfold grow
      rw [if_pos c]
    refine ⟨M.erase (longest M (q - 1), q - 1 - 2 * CW.share M (longest M (q - 1))), ⟨n0, ?_, ?_, top⟩⟩
    · unfold zst
      rw [if_pos c, show q - 1 + (0 : Int) - 2 * CW.share M (longest M (q - 1)) = q - 1 - 2 * CW.share M (longest M (q - 1)) by omega]
      exact pc
    · rw [eg]
      generalize longest M (q - 1) = L at *
      generalize M.erase (L, q - 1 - 2 * CW.share M L) = fr at *
      rw [sh, show q - 2 * (CW.share fr (L + 1) + L + 1) = q + 0 - 2 - 2 * (L + CW.share fr (L + 1)) by omega]
      exact List.perm_append_comm
  · have z : longest M (q - 1) = 0 := by omega
    refine ⟨M, ⟨n0, ?_, ?_, top⟩⟩
    · unfold zst
      rw [if_neg c]
      exact List.Perm.refl _
    · unfold grow
      rw [if_neg c, z, show q - 2 * (CW.share M (0 + 1) + 0 + 1) = q + 0 - 2 - 2 * CW.share M (0 + 1) by omega]
      exact List.perm_append_comm
end
theorem Clo.uniq {R : List Int} {s n m : Int} (a : Clo R s n) (b : Clo R s m) : n = m := by
  obtain ⟨d, rfl, h1, h2⟩ := a
  obtain ⟨e, rfl, g1, g2⟩ := b
  rcases Nat.lt_trichotomy d e with z | z | z
  · have := g2 d z; omega
  · rw [z]
  · have := h2 e z; omega
theorem look_creel_ok (c : Int) (hc : 1 ≤ c) : f_look_creel [.int c] = .ok .non := by
  have h : ¬ c < 1 := by omega
  simp [f_look_creel, m_look_creel, h]

/-- a list of drawn numbers -/
def Drawn (l : List Int) : Prop := ∀ d ∈ l, 0 ≤ d ∧ d < 9967
theorem drawn_get {l : List Int} (h : Drawn l) {i : Nat} (hi : i < l.length) {j : Int} (hj : j = (i : Int)) : ∃ v : Int, 0 ≤ v ∧ v < 9967 ∧ dIdx (.lst (l.map D.int)) (.int j) = .ok (.int v) := by
  subst hj
  refine ⟨l[i], (h _ (List.getElem_mem hi)).1, (h _ (List.getElem_mem hi)).2, dIdx_list ?_⟩
  rw [List.getElem?_map, List.getElem?_eq_getElem hi]
  rfl
theorem pick3 (a b c x : Int) : ∃ v : Int, (v = a ∨ v = b ∨ v = c) ∧ dIdx (.lst [.int a, .int b, .int c]) (.int (x.fmod 3)) = .ok (.int v) := by
  have f := fmod_pos (a := x) (b := 3) (by decide)
  rcases (show x.fmod 3 = 0 ∨ x.fmod 3 = 1 ∨ x.fmod 3 = 2 by omega) with h | h | h <;> rw [h]
  · exact ⟨a, .inl rfl, dIdx_list (i := 0) rfl⟩
  · exact ⟨b, .inr (.inl rfl), dIdx_list (i := 1) rfl⟩
  · exact ⟨c, .inr (.inr rfl), dIdx_list (i := 2) rfl⟩
theorem dEqB_ints : ∀ a b : List Int, dEqB (.lst (a.map D.int)) (.lst (b.map D.int)) = decide (a = b)
  | [], [] => rfl
  | [], y :: b => rfl
  | x :: a, [] => rfl
  | x :: a, y :: b => by
    show ((x == y) && dEqB (.lst (a.map D.int)) (.lst (b.map D.int))) = _
    rw [dEqB_ints a b, Bool.eq_iff_iff]
    simp
theorem eq_ints (a b : List Int) (ha : a.length ≤ 1000) (hb : b.length ≤ 1000) : dEq (.lst (a.map D.int)) (.lst (b.map D.int)) = .ok (.bl (decide (a = b))) := by
  unfold dEq
  rw [pl_shp (n := 2) (by decide) (pl_ints (n := 0) (le_szL (by omega))), pl_shp (n := 2) (by decide) (pl_ints (n := 0) (le_szL (by omega))), dEqB_ints]
  rfl
def byw (ws : List (Int × Int)) (s : Int) : Int := (ws.map fun w => w.2 * (if s < w.1 then s else w.1)).sum
theorem fSum_ints (l : List Int) : fSum [.lst (l.map D.int)] = .ok (.int l.sum) := by
  dsimp only [fSum]
  rw [intsOf_map]
theorem fSum_map {γ : Type} (l : List γ) (G : γ → Int) : fSum [.lst (l.map fun x => D.int (G x))] = .ok (.int (l.map G).sum) := by
  have e : (l.map fun x => D.int (G x)) = (l.map G).map D.int := by rw [List.map_map]; rfl
  rw [e, fSum_ints]

theorem by_walks_ok (ws : List (Int × Int)) (s : Int) (h : Walks ws) (h1 : 0 ≤ s) (h2 : s ≤ 10000) : f_by_walks [.lst (ws.map twoD), .int s] = .ok (.int (byw ws s)) := by
  have c : gComp (gIter (gVar 0)) (.tup [2, 3]) [2, 3] gYes (gBin dMul (gVar 3) (gCall fMin2 (VL.gCons (gVar 2) (VL.gCons (gVar 1) VL.gNil)))) [some (.lst (ws.map twoD)), some (.int s), none, none] = .ok (.lst (ws.map fun w => D.int (w.2 * (if s < w.1 then s else w.1)))) :=
    gComp_map (F := twoD) rfl fun w hw => by
      have w1 := h w hw
      have m : mulOk w.2 (if s < w.1 then s else w.1) = true := mulOk_right (by split <;> omega) (by split <;> omega)
      simp [gTurn, twoD, m]
  simp [f_by_walks, m_by_walks, c, fSum_map, byw]
def addL (ps ws : List (Int × Int)) : List (Int × Int) := ps.map fun p => (p.1, p.2 + byw ws p.1)
theorem addL_posi {ps : List (Int × Int)} (h : Posi ps) (ws : List (Int × Int)) : Posi (addL ps ws) := fun p hp => by
  obtain ⟨q, hq, rfl⟩ := List.mem_map.mp hp
  exact h q hq
/-- all stones together -/
def weight (ps : List (Int × Int)) : Nat := (ps.map fun p => p.1.toNat).sum
theorem addL_weight (ps ws : List (Int × Int)) : weight (addL ps ws) = weight ps := by
  unfold weight addL
  rw [List.map_map]
  rfl
theorem weight_perm {ps qs : List (Int × Int)} (h : ps.Perm qs) : weight ps = weight qs := by
  induction h with
  | nil => rfl
  | cons x _ ih => simp [weight] at *; omega
  | swap x y l => simp [weight]; omega
  | trans _ _ h1 h2 => exact h1.trans h2
theorem size_le {ps : List (Int × Int)} {p : Int × Int} (hp : p ∈ ps) (h : Posi ps) : p.1 ≤ (weight ps : Int) := by
  have w := weight_perm (List.perm_cons_erase hp)
  have h1 := h p hp
  simp [weight] at *
  omega

theorem added_to_ok (ps ws : List (Int × Int)) (h : Walks ws) (hp : Posi ps) (hw : weight ps ≤ 10000) : f_added_to [.lst (ps.map twoD), .lst (ws.map twoD)] = .ok (.lst ((sortBy ltII (addL ps ws)).map twoD)) := by
  have c : gComp (gIter (gVar 0)) (.tup [2, 3]) [2, 3] gYes (gTup (VL.gCons (gVar 2) (VL.gCons (gBin dAdd (gVar 3) (gCall f_by_walks (VL.gCons (gVar 1) (VL.gCons (gVar 2) VL.gNil)))) VL.gNil))) [some (.lst (ps.map twoD)), some (.lst (ws.map twoD)), none, none] = .ok (.lst (ps.map fun p => twoD (p.1, p.2 + byw ws p.1))) :=
    gComp_map (F := twoD) rfl fun p m => by
      have e := by_walks_ok ws p.1 h (by have := hp p m; omega) (by have := size_le m hp; omega)
      simp [gTurn, twoD, e]
  have e : (ps.map fun p => twoD (p.1, p.2 + byw ws p.1)) = (addL ps ws).map twoD := by unfold addL; rw [List.map_map]; rfl
  rw [e] at c
  have s := fSorted_two (addL ps ws)
  generalize (addL ps ws).map twoD = aa at *
  simp [f_added_to, m_added_to, c, s]

theorem addL_perm {ps qs : List (Int × Int)} (h : ps.Perm qs) (ws : List (Int × Int)) : (addL ps ws).Perm (addL qs ws) := h.map _
def topP (ps : List (Int × Int)) : Int := lmax (ps.map (vac ps))
def shortest (ps : List (Int × Int)) (q : Int) : Int := lmin (ripes ps q)
def rest (ps : List (Int × Int)) (p : Int) : List (Int × Int) := ps.erase (shortest ps p, p - 2 * share ps (shortest ps p))
def shrink (ps : List (Int × Int)) (p : Int) : List (Int × Int) :=
  if 1 < shortest ps p then rest ps p ++ [(shortest ps p - 1, p - 1 - 2 * (share (rest ps p) (shortest ps p - 1) + shortest ps p - 1))] else rest ps p
/-- the stones of a list, the last one first -/
def stonesD : Nat → List (Int × Int) → List Int
  | 0, _ => []
  | n + 1, ps => if ps = [] then [] else topP ps :: stonesD n (shrink ps (topP ps))
def stones (ps : List (Int × Int)) : List Int := (stonesD (weight ps) ps).reverse
/-- the trains in the order in which they came -/
def heap (r : List Int) : List (Int × Int) := r.foldl grow []
def farR (r : List Int) (ws : List (Int × Int)) : List Int := stones (addL (heap r) ws)
theorem shrink_posi {ps : List (Int × Int)} (h : Posi ps) (q : Int) : Posi (shrink ps q) := by
  have hr : Posi (rest ps q) := fun p hp => h p (List.mem_of_mem_erase hp)
  unfold shrink
  split
  · intro p hp
    rcases List.mem_append.mp hp with z | z
    · exact hr p z
    · have : p = _ := List.mem_singleton.mp z
      rw [this]
      show 1 ≤ shortest ps q - 1
      omega
  · exact hr
theorem vac_le {ps : List (Int × Int)} {p : Int × Int} (h : p ∈ ps) : vac ps p ≤ topP ps := lmax_le (List.mem_map.mpr ⟨p, h, rfl⟩)
theorem lmin_le : ∀ {l : List Int} {x : Int}, x ∈ l → lmin l ≤ x
  | [], _, h => by cases h
  | [y], x, h => by
    have : x = y := by simpa using h
    subst this
    exact Int.le_refl _
  | y :: z :: r, x, h => by
    unfold lmin
    rcases List.mem_cons.mp h with e | h
    · subst e; exact Int.min_le_left _ _
    · exact Int.le_trans (Int.min_le_right _ _) (lmin_le h)

theorem short_le {ps : List (Int × Int)} {q : Int} {p : Int × Int} (h : p ∈ ps) (e : vac ps p = q) : shortest ps q ≤ p.1 := by
  refine lmin_le (List.mem_map.mpr ⟨p, List.mem_filter.mpr ⟨h, ?_⟩, rfl⟩)
  simpa using e
/-- the shortest train that is ripe at the greatest place -/
theorem top_some {ps : List (Int × Int)} (n : ps ≠ []) : ripes ps (topP ps) ≠ [] := by
  have m : ps.map (vac ps) ≠ [] := by simpa using n
  obtain ⟨p, hp, e⟩ := List.mem_map.mp (lmax_mem m)
  intro z
  have : p.1 ∈ ripes ps (topP ps) := List.mem_map.mpr ⟨p, List.mem_filter.mpr ⟨hp, by
    show (vac ps p == topP ps) = true
    rw [e]
    simp [topP]⟩, rfl⟩
  rw [z] at this
  cases this
theorem lmin_mem : ∀ {l : List Int}, l ≠ [] → lmin l ∈ l
  | [], h => absurd rfl h
  | [x], _ => by simp [lmin]
  | x :: y :: r, _ => by
    have ih := lmin_mem (l := y :: r) (by simp)
    unfold lmin
    rcases Int.le_total x (lmin (y :: r)) with h | h
    · rw [Int.min_eq_left h]; exact List.mem_cons_self
    · rw [Int.min_eq_right h]; exact List.mem_cons_of_mem _ ih
theorem short_mem {ps : List (Int × Int)} (n : ps ≠ []) : (shortest ps (topP ps), topP ps - 2 * share ps (shortest ps (topP ps))) ∈ ps := mem_ripes.mp (lmin_mem (top_some n))
theorem rest_cons {ps : List (Int × Int)} (n : ps ≠ []) : ps.Perm ((shortest ps (topP ps), topP ps - 2 * share ps (shortest ps (topP ps))) :: rest ps (topP ps)) := List.perm_cons_erase (short_mem n)
theorem short_pos {ps : List (Int × Int)} (n : ps ≠ []) (h : Posi ps) : 1 ≤ shortest ps (topP ps) := h _ (short_mem n)
/-- behind the last stone taken out all are ripe further back -/
theorem shrink_vac {ps : List (Int × Int)} (n : ps ≠ []) (h : Posi ps) : ∀ z ∈ shrink ps (topP ps), vac (shrink ps (topP ps)) z ≤ topP ps - 1 ∧ (vac (shrink ps (topP ps)) z = topP ps - 1 → z.1 ≤ shortest ps (topP ps) - 1) := by
  have hj := short_pos n h
  have pc := rest_cons n
  have sh := fun s => share_perm pc s
  unfold shrink
  generalize ht : topP ps = t at *
  generalize hjj : shortest ps t = j at *
  generalize hr : rest ps t = r at *
  have memr : ∀ z ∈ r, z ∈ ps := fun z hz => pc.mem_iff.mpr (List.mem_cons_of_mem _ hz)
  split
  · rename_i c
    intro z hz
    have e : ∀ s, share (r ++ [(j - 1, t - 1 - 2 * (share r (j - 1) + j - 1))]) s = share r s + lsr (j - 1) s := fun s => by
      rw [share_app, share_cons]
      simp [share]
    unfold vac
    rw [e]
    rcases List.mem_append.mp hz with z1 | z1
    · have m := memr z z1
      have v := vac_le m
      have sl := fun q => short_le (q := q) m
      have hz1 := h z m
      have s1 := sh z.1
      rw [share_cons] at s1
      rw [ht] at v
      have sl := sl t
      rw [hjj] at sl
      unfold vac at v sl
      have a : lsr j z.1 = if j < z.1 then j else z.1 := rfl
      have b : lsr (j - 1) z.1 = if j - 1 < z.1 then j - 1 else z.1 := rfl
      have s1' : share ps z.1 = lsr j z.1 + share r z.1 := s1
      by_cases g : j ≤ z.1
      · have a' : lsr j z.1 = j := by rw [a]; split <;> omega
        have b' : lsr (j - 1) z.1 = j - 1 := by rw [b]; split <;> omega
        omega
      · have a' : lsr j z.1 = z.1 := by rw [a]; split <;> omega
        have b' : lsr (j - 1) z.1 = z.1 := by rw [b]; split <;> omega
        by_cases w : z.2 + 2 * share ps z.1 = t
        · have := sl w
          omega
        · omega
    · have : z = _ := List.mem_singleton.mp z1
      subst this
      have b : lsr (j - 1) (j - 1) = j - 1 := by unfold lsr; split <;> omega
      show t - 1 - 2 * (share r (j - 1) + j - 1) + 2 * (share r (j - 1) + lsr (j - 1) (j - 1)) ≤ t - 1 ∧ (_ → j - 1 ≤ j - 1)
      rw [b]
      exact ⟨by omega, fun _ => Int.le_refl _⟩
  · rename_i c
    intro z hz
    have m := memr z hz
    have v := vac_le m
    have hz1 := h z m
    have s1 := sh z.1
    rw [share_cons] at s1
    rw [ht] at v
    unfold vac at v ⊢
    have a' : lsr j z.1 = 1 := by unfold lsr; split <;> omega
    have s1' : share ps z.1 = lsr j z.1 + share r z.1 := s1
    omega
theorem topP_shrink {ps : List (Int × Int)} (n : ps ≠ []) (h : Posi ps) (m : shrink ps (topP ps) ≠ []) : topP (shrink ps (topP ps)) ≤ topP ps - 1 := by
  have q : (shrink ps (topP ps)).map (vac (shrink ps (topP ps))) ≠ [] := by simpa using m
  obtain ⟨p, hp, e⟩ := List.mem_map.mp (lmax_mem q)
  show lmax _ ≤ _
  rw [← e]
  exact (shrink_vac n h p hp).1
theorem Rc.le {N k : Nat} {a b : List Int} (h : Rc N a b) (l : k ≤ N) : k ≤ a.length ↔ k ≤ b.length := by
  rcases h with h | ⟨C, a', b', h1, h2, h3⟩
  · rw [h]
  · rw [h1, h2, List.length_append, List.length_append]
    omega
/-- joined runs alternate, none is empty, the first is full -/
structure Alt (L : List Run) : Prop where
  ne : ∀ p ∈ L, p.2 ≠ []
  hd : ∀ p, L.head? = some p → p.1 = true
  ch : ∀ (A B : List Run) (p q : Run), L = A ++ p :: q :: B → p.1 ≠ q.1
theorem Alt.nil : Alt [] := ⟨(fun p h => nomatch h), (fun p h => nomatch h), fun A B p q e => by
  have := congrArg List.length e
  simp at this⟩
theorem R1.nil {N : Nat} {p q : Run} (h : R1 N p q) (hN : 1 ≤ N) : p.2 = [] ↔ q.2 = [] := by
  have := h.2.2.le (k := 1) hN
  rw [← List.length_eq_zero_iff, ← List.length_eq_zero_iff]
  omega
theorem stones_lt : ∀ (n : Nat) {ps : List (Int × Int)}, Posi ps → (stonesD n ps).Pairwise (fun a b => b < a) ∧ ∀ x ∈ stonesD n ps, x ≤ topP ps
  | 0, ps, h => ⟨List.Pairwise.nil, fun x hx => nomatch hx⟩
  | n + 1, ps, h => by
    unfold stonesD
    by_cases e : ps = []
    · rw [if_pos e]
      exact ⟨List.Pairwise.nil, fun x hx => nomatch hx⟩
    · rw [if_neg e]
      obtain ⟨i1, i2⟩ := stones_lt n (shrink_posi h (topP ps))
      have k : ∀ x ∈ stonesD n (shrink ps (topP ps)), x ≤ topP ps - 1 := fun x hx => by
        have m : shrink ps (topP ps) ≠ [] := fun z => by
          rw [z] at hx
          cases n <;> simp [stonesD] at hx
        exact Int.le_trans (i2 x hx) (topP_shrink e h m)
      refine ⟨List.pairwise_cons.mpr ⟨fun x hx => by have := k x hx; omega, i1⟩, fun x hx => ?_⟩
      rcases List.mem_cons.mp hx with z | z
      · rw [z]; exact Int.le_refl _
      · have := k x z; omega
theorem stones_rising (ps : List (Int × Int)) (h : Posi ps) : Rising (stones ps) := by
  unfold stones Rising
  rw [List.pairwise_reverse]
  exact (stones_lt (weight ps) h).1

theorem grow_posi {ps : List (Int × Int)} (h : Posi ps) (q : Int) : Posi (grow ps q) := by
  have l0 : 0 ≤ longest ps (q - 1) := by
    unfold longest
    split
    · exact Int.le_refl _
    · rename_i n
      have := h _ (mem_ripes.mp (lmax_mem n))
      have : 1 ≤ lmax (ripes ps (q - 1)) := this
      omega
  intro p hp
  unfold grow at hp
  rcases List.mem_append.mp hp with z | z
  · split at z
    · exact h p (List.mem_of_mem_erase z)
    · exact h p z
  · have : p = _ := List.mem_singleton.mp z
    rw [this]
    show 1 ≤ longest ps (q - 1) + 1
    omega
theorem grows_posi : ∀ (r : List Int) {ps : List (Int × Int)}, Posi ps → Posi (r.foldl grow ps)
  | [], _, h => h
  | p :: r, _, h => grows_posi r (grow_posi h p)
theorem heap_posi (r : List Int) : Posi (heap r) := grows_posi r (ps := []) (fun p hp => (nomatch hp))
theorem farR_rising (r : List Int) (ws : List (Int × Int)) : Rising (farR r ws) := stones_rising _ (addL_posi (heap_posi r) ws)
theorem ripes_perm {ps qs : List (Int × Int)} (h : ps.Perm qs) (q : Int) : (ripes ps q).Perm (ripes qs q) := by
  unfold ripes
  have e : (fun p => vac ps p == q) = fun p => vac qs p == q := by
    funext p
    unfold vac
    rw [share_perm h]
  rw [e]
  exact (h.filter _).map _
theorem lmax_perm {l m : List Int} (h : l.Perm m) : lmax l = lmax m := by
  by_cases e : l = []
  · subst e
    rw [List.nil_perm.mp h]
  · have e' : m ≠ [] := fun z => by subst z; exact e (List.perm_nil.mp h)
    exact Int.le_antisymm (lmax_le (h.mem_iff.mp (lmax_mem e))) (lmax_le (h.mem_iff.mpr (lmax_mem e')))
theorem longest_perm {ps qs : List (Int × Int)} (h : ps.Perm qs) (q : Int) : longest ps q = longest qs q := by
  have r := ripes_perm h q
  unfold longest
  by_cases e : ripes ps q = []
  · have e' : ripes qs q = [] := by rw [e] at r; exact List.nil_perm.mp r
    rw [if_pos e, if_pos e']
  · have e' : ripes qs q ≠ [] := fun z => by rw [z] at r; exact e (List.perm_nil.mp r)
    rw [if_neg e, if_neg e', lmax_perm r]
theorem grow_perm {ps qs : List (Int × Int)} (h : ps.Perm qs) (p : Int) : (grow ps p).Perm (grow qs p) := by
  unfold grow
  rw [longest_perm h, share_perm h]
  by_cases c : 0 < longest qs (p - 1)
  · rw [if_pos c, if_pos c, share_perm (h.erase _)]
    exact List.Perm.append_right _ (h.erase _)
  · rw [if_neg c, if_neg c, share_perm h]
    exact List.Perm.append_right _ h
theorem longest_of {ps : List (Int × Int)} {q s : Int} (h : s ∈ ripes ps q) (k : ∀ t ∈ ripes ps q, t ≤ s) : longest ps q = s := by
  have n : ripes ps q ≠ [] := fun z => by rw [z] at h; cases h
  unfold longest
  rw [if_neg n]
  exact (lmax_of h k).symm
theorem longest_none {ps : List (Int × Int)} {q : Int} (h : ∀ t, t ∉ ripes ps q) : longest ps q = 0 := by
  unfold longest
  rw [if_pos (List.eq_nil_iff_forall_not_mem.mpr h)]
/-- a stone taken out and put in again -/
theorem grow_shrink {ps : List (Int × Int)} (n : ps ≠ []) (h : Posi ps) : (grow (shrink ps (topP ps)) (topP ps)).Perm ps := by
  have hv := shrink_vac n h
  have hj := short_pos n h
  have pc := rest_cons n
  have sj := share_perm pc (shortest ps (topP ps))
  rw [share_cons] at sj
  generalize ht : topP ps = t at *
  generalize hjj : shortest ps t = j at *
  have b : lsr j j = j := by unfold lsr; split <;> omega
  have sj' : share ps j = j + share (rest ps t) j := by rw [sj]; show lsr j j + _ = _; rw [b]
  by_cases c : 1 < j
  · have es : shrink ps t = rest ps t ++ [(j - 1, t - 1 - 2 * (share (rest ps t) (j - 1) + j - 1))] := by
      unfold shrink
      rw [hjj, if_pos c]
    have e : ∀ s, share (shrink ps t) s = share (rest ps t) s + lsr (j - 1) s := fun s => by
      rw [es, share_app, share_cons]
      simp [share]
    have b1 : lsr (j - 1) (j - 1) = j - 1 := by unfold lsr; split <;> omega
    have ey : (j - 1, t - 1 - 2 * share (shrink ps t) (j - 1)) = (j - 1, t - 1 - 2 * (share (rest ps t) (j - 1) + j - 1)) := by
      rw [e, b1]
      refine Prod.ext rfl ?_
      show t - 1 - 2 * (share (rest ps t) (j - 1) + (j - 1)) = _
      omega
    have my : (j - 1, t - 1 - 2 * share (shrink ps t) (j - 1)) ∈ shrink ps t := by
      rw [ey, es]
      simp
    have lg : longest (shrink ps t) (t - 1) = j - 1 := longest_of (mem_ripes.mpr my) fun s hs => by
      have := (hv _ (mem_ripes.mp hs)).2
      unfold vac at this
      have := this (by show t - 1 - 2 * share (shrink ps t) s + 2 * share (shrink ps t) s = t - 1; omega)
      exact this
    have er : ((shrink ps t).erase (j - 1, t - 1 - 2 * share (shrink ps t) (j - 1))).Perm (rest ps t) := by
      rw [ey]
      have p1 : (shrink ps t).Perm ((j - 1, t - 1 - 2 * (share (rest ps t) (j - 1) + j - 1)) :: rest ps t) := by
        rw [es]
        exact List.perm_append_comm
      have p2 := p1.erase (j - 1, t - 1 - 2 * (share (rest ps t) (j - 1) + j - 1))
      rwa [List.erase_cons_head] at p2
    unfold grow
    rw [lg, if_pos (by omega), share_perm er]
    have ex : (j - 1 + 1, t - 2 * (share (rest ps t) (j - 1 + 1) + (j - 1) + 1)) = (j, t - 2 * share ps j) := by
      have q : j - 1 + 1 = j := by omega
      rw [q, sj']
      refine Prod.ext rfl ?_
      show t - 2 * (share (rest ps t) j + (j - 1) + 1) = t - 2 * (j + share (rest ps t) j)
      omega
    rw [ex]
    exact ((List.Perm.append_right _ er).trans List.perm_append_comm).trans pc.symm
  · have j1 : j = 1 := by omega
    have es : shrink ps t = rest ps t := by
      unfold shrink
      rw [hjj, if_neg c]
    have lg : longest (shrink ps t) (t - 1) = 0 := longest_none fun s hs => by
      have m := mem_ripes.mp hs
      have := (hv _ m).2 (by unfold vac; show t - 1 - 2 * share (shrink ps t) s + 2 * share (shrink ps t) s = t - 1; omega)
      have p := shrink_posi h t _ m
      have this' : s ≤ j - 1 := this
      have p' : 1 ≤ s := p
      omega
    unfold grow
    rw [lg, if_neg (by omega), es]
    have ex : ((0 : Int) + 1, t - 2 * (share (rest ps t) (0 + 1) + 0 + 1)) = (j, t - 2 * share ps j) := by
      rw [sj', j1]
      refine Prod.ext rfl ?_
      show t - 2 * (share (rest ps t) (0 + 1) + 0 + 1) = t - 2 * (1 + share (rest ps t) 1)
      rw [show (0 : Int) + 1 = 1 from rfl]
      omega
    rw [ex]
    exact List.perm_append_comm.trans pc.symm
theorem weight_shrink {ps : List (Int × Int)} (n : ps ≠ []) (h : Posi ps) : weight (shrink ps (topP ps)) + 1 = weight ps := by
  have hj := short_pos n h
  have w := weight_perm (rest_cons n)
  unfold shrink
  generalize topP ps = t at *
  generalize hjj : shortest ps t = j at *
  have w' : weight ps = j.toNat + weight (rest ps t) := by rw [w]; simp [weight]
  split
  · simp [weight] at *
    omega
  · omega
theorem weight_zero {ps : List (Int × Int)} (h : Posi ps) (w : weight ps = 0) : ps = [] := by
  cases ps with
  | nil => rfl
  | cons p r =>
    have := h p List.mem_cons_self
    simp [weight] at w
    omega
theorem stones_grow : ∀ (n : Nat) {ps : List (Int × Int)}, Posi ps → weight ps ≤ n → ((stonesD n ps).reverse.foldl grow []).Perm ps
  | 0, ps, h, w => by
    rw [weight_zero h (by omega)]
    exact List.Perm.refl _
  | n + 1, ps, h, w => by
    unfold stonesD
    by_cases e : ps = []
    · rw [if_pos e, e]
      exact List.Perm.refl _
    · rw [if_neg e, List.reverse_cons, List.foldl_append]
      have ih := stones_grow n (shrink_posi h (topP ps)) (by have := weight_shrink e h; omega)
      exact (grow_perm ih _).trans (grow_shrink e h)
theorem heap_stones {ps : List (Int × Int)} (h : Posi ps) : (heap (stones ps)).Perm ps := stones_grow (weight ps) h (Nat.le_refl _)
theorem heap_far (r : List Int) (ws : List (Int × Int)) : (heap (farR r ws)).Perm (addL (heap r) ws) := heap_stones (addL_posi (heap_posi r) ws)
theorem stonesD_succ (n : Nat) (ps : List (Int × Int)) : stonesD (n + 1) ps = if ps = [] then [] else topP ps :: stonesD n (shrink ps (topP ps)) := rfl
theorem topP_perm {ps qs : List (Int × Int)} (h : ps.Perm qs) : topP ps = topP qs := by
  unfold topP
  have e : vac ps = vac qs := by
    funext p
    unfold vac
    rw [share_perm h]
  rw [e]
  exact lmax_perm (h.map _)
theorem lmin_perm {l m : List Int} (h : l.Perm m) : lmin l = lmin m := by
  by_cases e : l = []
  · subst e
    rw [List.nil_perm.mp h]
  · have e' : m ≠ [] := fun z => by subst z; exact e (List.perm_nil.mp h)
    exact Int.le_antisymm (lmin_le (h.mem_iff.mpr (lmin_mem e'))) (lmin_le (h.mem_iff.mp (lmin_mem e)))
theorem shortest_perm {ps qs : List (Int × Int)} (h : ps.Perm qs) (q : Int) : shortest ps q = shortest qs q := lmin_perm (ripes_perm h q)
theorem rest_perm {ps qs : List (Int × Int)} (h : ps.Perm qs) (p : Int) : (rest ps p).Perm (rest qs p) := by
  unfold rest
  rw [shortest_perm h, share_perm h]
  exact h.erase _
theorem shrink_perm {ps qs : List (Int × Int)} (h : ps.Perm qs) (p : Int) : (shrink ps p).Perm (shrink qs p) := by
  have r := rest_perm h p
  unfold shrink
  rw [shortest_perm h, share_perm r]
  by_cases c : 1 < shortest qs p
  · rw [if_pos c, if_pos c]
    exact List.Perm.append_right _ r
  · rw [if_neg c, if_neg c]
    exact r
theorem stones_perm : ∀ (n : Nat) {ps qs : List (Int × Int)}, ps.Perm qs → stonesD n ps = stonesD n qs
  | 0, _, _, _ => rfl
  | n + 1, ps, qs, h => by
    unfold stonesD
    by_cases e : ps = []
    · have e' : qs = [] := by subst e; exact List.nil_perm.mp h
      rw [if_pos e, if_pos e']
    · have e' : qs ≠ [] := fun z => by subst z; exact e (List.perm_nil.mp h)
      rw [if_neg e, if_neg e', topP_perm h, stones_perm n (shrink_perm h _)]
theorem grow_vac {ps : List (Int × Int)} (h : Posi ps) {p : Int} (hv : ∀ z ∈ ps, vac ps z ≤ p - 1) : ∀ z ∈ grow ps p, vac (grow ps p) z ≤ p := by
  have n0 := longest_nonneg h (p - 1)
  have big : ∀ z ∈ ps, vac ps z = p - 1 → z.1 ≤ longest ps (p - 1) := fun z hz e => by
    have m : z.1 ∈ ripes ps (p - 1) := List.mem_map.mpr ⟨z, List.mem_filter.mpr ⟨hz, by simpa using e⟩, rfl⟩
    have n : ripes ps (p - 1) ≠ [] := fun w => by rw [w] at m; cases m
    unfold longest
    rw [if_neg n]
    exact lmax_le m
  unfold grow
  by_cases c : 0 < longest ps (p - 1)
  · rw [if_pos c]
    have mm := longest_mem c
    have pc := List.perm_cons_erase mm
    generalize longest ps (p - 1) = s at *
    generalize hfr : ps.erase (s, p - 1 - 2 * share ps s) = fr at *
    have sh : ∀ t, share ps t = lsr s t + share fr t := fun t => by rw [share_perm pc, share_cons]
    intro z hz
    unfold vac
    have e : share (fr ++ [(s + 1, p - 2 * (share fr (s + 1) + s + 1))]) z.1 = share fr z.1 + lsr (s + 1) z.1 := by
      rw [share_app, share_cons]
      simp [share]
    rw [e]
    rcases List.mem_append.mp hz with m | m
    · have hz' : z ∈ ps := pc.mem_iff.mpr (List.mem_cons_of_mem _ m)
      have v := hv z hz'
      have b := big z hz'
      have s1 := sh z.1
      unfold vac at v b
      have a1 : lsr s z.1 = if s < z.1 then s else z.1 := rfl
      have a2 : lsr (s + 1) z.1 = if s + 1 < z.1 then s + 1 else z.1 := rfl
      by_cases g : s + 1 ≤ z.1
      · have a1' : lsr s z.1 = s := by rw [a1]; split <;> omega
        have a2' : lsr (s + 1) z.1 = s + 1 := by rw [a2]; split <;> omega
        by_cases w : z.2 + 2 * share ps z.1 = p - 1
        · have := b w
          omega
        · omega
      · have a1' : lsr s z.1 = z.1 := by rw [a1]; split <;> omega
        have a2' : lsr (s + 1) z.1 = z.1 := by rw [a2]; split <;> omega
        omega
    · have : z = _ := List.mem_singleton.mp m
      rw [this]
      have a2 : lsr (s + 1) (s + 1) = s + 1 := by unfold lsr; split <;> omega
      show p - 2 * (share fr (s + 1) + s + 1) + 2 * (share fr (s + 1) + lsr (s + 1) (s + 1)) ≤ p
      rw [a2]
      omega
  · rw [if_neg c]
    have z0 : longest ps (p - 1) = 0 := by omega
    rw [z0] at big ⊢
    intro z hz
    unfold vac
    have e : share (ps ++ [((0 : Int) + 1, p - 2 * (share ps (0 + 1) + 0 + 1))]) z.1 = share ps z.1 + lsr (0 + 1) z.1 := by
      rw [share_app, share_cons]
      simp [share]
    rw [e]
    rcases List.mem_append.mp hz with m | m
    · have v := hv z m
      have b := big z m
      have h1 := h z m
      unfold vac at v b
      have a2 : lsr (0 + 1) z.1 = 1 := by unfold lsr; split <;> omega
      rw [a2]
      by_cases w : z.2 + 2 * share ps z.1 = p - 1
      · have := b w
        omega
      · omega
    · have : z = _ := List.mem_singleton.mp m
      rw [this]
      have a2 : lsr ((0 : Int) + 1) (0 + 1) = 1 := by unfold lsr; split <;> omega
      show p - 2 * (share ps (0 + 1) + 0 + 1) + 2 * (share ps (0 + 1) + lsr (0 + 1) (0 + 1)) ≤ p
      rw [a2]
      omega
theorem shrink_grow {M : List (Int × Int)} {q : Int} (h : Posi M) (hv : ∀ p ∈ M, vac M p ≤ q - 1) : topP (grow M q) = q ∧ (shrink (grow M q) q).Perm M := by
  obtain ⟨R, g⟩ := gro_grow h q
  have s0 := g.s0
  have gv := grow_vac h hv
  generalize longest M (q - 1) = s at *
  have hp := grow_posi h q
  generalize grow M q = M' at *
  obtain ⟨n1, n2⟩ := g.new
  have sn : share M' (s + 1) = share M (s + 1) + 1 := by rw [g.share (by omega), if_pos (by omega)]
  have en : (s + 1, q + (0 : Int) - 2 - 2 * share M (s + 1)) = (s + 1, q - 2 * share M' (s + 1)) := by
    rw [sn]
    refine Prod.ext rfl ?_
    dsimp only
    omega
  have tp : topP M' = q := by
    refine Int.le_antisymm ?_ ?_
    · have ne : M'.map (vac M') ≠ [] := fun z => by
        have : M' = [] := by simpa using z
        rw [this] at n1
        cases n1
      obtain ⟨p, hp, e⟩ := List.mem_map.mp (lmax_mem ne)
      show lmax _ ≤ _
      rw [← e]
      exact gv p hp
    · have := vac_le n1
      rw [n2] at this
      omega
  have sh : shortest M' q = s + 1 := by
    refine (lmin_of (m := s + 1) ?_ fun y hy => ?_).symm
    · rw [en] at n1
      exact mem_ripes.mpr n1
    · have m := mem_ripes.mp hy
      have p1 := hp _ m
      have v : vac M' (y, q - 2 * share M' y) = q := by
        unfold vac
        show q - 2 * share M' y + 2 * share M' y = q
        omega
      rcases g.old m (by omega) with e | ⟨_, hm, e⟩
      · have : y = s + 1 := congrArg Prod.fst e
        omega
      · rw [v] at e
        have a := hv _ hm
        dsimp only at e
        split at e
        · omega
        · omega
  refine ⟨tp, ?_⟩
  have rs : (rest M' q).Perm R := by
    unfold rest
    rw [sh, ← en]
    have w := g.m'.erase (s + 1, q + (0 : Int) - 2 - 2 * share M (s + 1))
    rwa [List.erase_cons_head] at w
  unfold shrink
  rw [sh]
  by_cases c : 1 < s + 1
  · rw [if_pos c]
    have e1 : share M s = s + share R s := by
      have b := share_perm g.m s
      rw [share_app, share_z s0 s0] at b
      have : lsr s s = s := by unfold lsr; split <;> omega
      omega
    have e2 : s + 1 - 1 = s := by omega
    have e3 := share_perm rs s
    have w := g.m
    unfold zst at w
    rw [if_pos (by omega)] at w
    have e4 : q - 1 - 2 * (share (rest M' q) (s + 1 - 1) + (s + 1) - 1) = q - 1 + 0 - 2 * share M s := by rw [e2]; omega
    rw [e4, e2]
    exact ((List.Perm.append_right _ rs).trans List.perm_append_comm).trans w.symm
  · rw [if_neg c]
    have w := g.m
    unfold zst at w
    rw [if_neg (by omega)] at w
    exact rs.trans w.symm
theorem heap_vac : ∀ (r : List Int) {ps : List (Int × Int)} {q : Int}, Posi ps → (∀ z ∈ ps, vac ps z ≤ q) → (∀ x ∈ r, q < x) → Rising r → ∀ z ∈ r.foldl grow ps, vac (r.foldl grow ps) z ≤ r.getLastD q
  | [], ps, q, _, hv, _, _ => hv
  | p :: r, ps, q, hp, hv, hq, hr => by
    have h1 := grow_vac hp (p := p) (fun z hz => by have := hv z hz; have := hq p List.mem_cons_self; omega)
    obtain ⟨a, b⟩ := List.pairwise_cons.mp hr
    have := heap_vac r (grow_posi hp p) h1 (fun x hx => a x hx) b
    rw [List.foldl_cons]
    have e : (p :: r).getLastD q = r.getLastD p := by cases r <;> rfl
    rw [e]
    exact this

theorem heap_legit {y : List Int} {q : Int} (hy : Rising y) (hq : ∀ x ∈ y, x < q) : ∀ z ∈ heap y, vac (heap y) z ≤ q - 1 := by
  cases y with
  | nil => intro z hz; cases hz
  | cons a y =>
    intro z hz
    have h := heap_vac (a :: y) (ps := []) (q := a - 1) (fun p hp => (nomatch hp)) (fun p hp => (nomatch hp)) (fun x hx => by
      rcases List.mem_cons.mp hx with e | m
      · omega
      · have := (List.pairwise_cons.mp hy).1 x m
        omega) hy z hz
    have lm : (a :: y).getLastD (a - 1) ∈ a :: y := by
      rw [List.getLastD_eq_getLast?]
      have : (a :: y).getLast? = some ((a :: y).getLast (by simp)) := List.getLast?_eq_some_getLast (by simp)
      rw [this]
      exact List.getLast_mem _
    have := hq _ lm
    exact Int.le_trans h (by omega)
theorem heap_app (y l : List Int) : heap (y ++ l) = l.foldl grow (heap y) := by unfold heap; rw [List.foldl_append]
theorem stones_heap_aux : ∀ (n : Nat) (r : List Int), r.length = n → Rising r → ∀ k, n ≤ k → stonesD k (heap r) = r.reverse
  | 0, r, hn, _, k, _ => by
    have : r = [] := List.eq_nil_of_length_eq_zero hn
    subst this
    cases k <;> rfl
  | n + 1, r, hn, hr, k, hk => by
    rcases List.eq_nil_or_concat r with e | ⟨r0, q, e⟩
    · subst e; cases hn
    · rw [List.concat_eq_append] at e
      subst e
      have hn0 : r0.length = n := by simpa using hn
      have hr0 : Rising r0 := (List.pairwise_append.mp hr).1
      have hlt : ∀ x ∈ r0, x < q := fun x hx => (List.pairwise_append.mp hr).2.2 x hx q (by simp)
      have eh : heap (r0 ++ [q]) = grow (heap r0) q := heap_app r0 [q]
      obtain ⟨t1, t2⟩ := shrink_grow (heap_posi r0) (heap_legit hr0 hlt)
      cases k with
      | zero => omega
      | succ k =>
        have ne : grow (heap r0) q ≠ [] := fun z => by
          unfold grow at z
          simp at z
        rw [eh, stonesD_succ, if_neg ne, t1, stones_perm k t2, stones_heap_aux n r0 hn0 hr0 k (by omega), List.reverse_append]
        rfl
theorem weight_app (ps qs : List (Int × Int)) : weight (ps ++ qs) = weight ps + weight qs := by simp [weight]

theorem weight_grow {ps : List (Int × Int)} (h : Posi ps) (p : Int) : weight (grow ps p) = weight ps + 1 := by
  have n0 := longest_nonneg h (p - 1)
  unfold grow
  rw [weight_app]
  by_cases c : 0 < longest ps (p - 1)
  · rw [if_pos c]
    have w := weight_perm (List.perm_cons_erase (longest_mem c))
    generalize longest ps (p - 1) = s at *
    generalize ps.erase (s, p - 1 - 2 * share ps s) = fr at *
    simp [weight] at *
    omega
  · rw [if_neg c]
    have z : longest ps (p - 1) = 0 := by omega
    rw [z]
    simp [weight]
theorem weight_grows : ∀ (r : List Int) {ps : List (Int × Int)}, Posi ps → weight (r.foldl grow ps) = weight ps + r.length
  | [], _, _ => rfl
  | p :: r, ps, h => by
    rw [List.foldl_cons, weight_grows r (grow_posi h p), weight_grow h p, List.length_cons]
    omega
theorem heap_weight (r : List Int) : weight (heap r) = r.length := by
  have := weight_grows r (ps := []) (fun p hp => (nomatch hp))
  unfold heap
  rw [this]
  simp [weight]
/-- the row of a row's list is the row -/
theorem stones_heap {r : List Int} (hr : Rising r) : stones (heap r) = r := by
  unfold stones
  rw [stones_heap_aux r.length r rfl hr _ (by rw [heap_weight]; exact Nat.le_refl _), List.reverse_reverse]
theorem stones_perm_eq {ps qs : List (Int × Int)} (h : ps.Perm qs) : stones ps = stones qs := by
  unfold stones
  rw [weight_perm h, stones_perm _ h]
theorem heap_inj {r o : List Int} (hr : Rising r) (ho : Rising o) (h : (heap r).Perm (heap o)) : r = o := by
  rw [← stones_heap hr, ← stones_heap ho, stones_perm_eq h]
/-- the row that has this list -/
theorem farR_eq {r o : List Int} {ws : List (Int × Int)} (ho : Rising o) (h : (heap o).Perm (addL (heap r) ws)) : farR r ws = o := heap_inj (farR_rising r ws) ho ((heap_far r ws).trans h.symm)
theorem shf_shf (f g : Int → Int) (M : List (Int × Int)) : shf f (shf g M) = shf (fun i => g i + f i) M := by
  unfold shf
  rw [List.map_map]
  apply List.map_congr_left
  intro p _
  show (p.1, p.2 + g p.1 + f p.1) = (p.1, p.2 + (g p.1 + f p.1))
  rw [Int.add_assoc]
theorem far_far (r : List Int) (us vs ws : List (Int × Int)) (h : ∀ s, byw us s + byw vs s = byw ws s) : farR (farR r us) vs = farR r ws := by
  refine (farR_eq (farR_rising r ws) ?_)
  refine (heap_far r ws).trans ?_
  have q : (shf (byw vs) (heap (farR r us))).Perm (shf (byw vs) (shf (byw us) (heap r))) := addL_perm (heap_far r us) vs
  rw [shf_shf] at q
  have e : (fun i => byw us i + byw vs i) = byw ws := funext h
  rw [e] at q
  exact q.symm

theorem walks_badW' {ws : List (Int × Int)} (h : Walks ws) : badW ws = false := by
  cases q : badW ws with
  | false => rfl
  | true =>
    obtain ⟨w, hw, e⟩ := List.any_eq_true.mp q
    have := h w hw
    simp at e
    omega
theorem look_loop (r : List Int) (h : Rising r) : ∀ (n k : Nat) (a : Option D), 1 ≤ k → k + n ≤ r.length → ∃ a', forL (.one 1) b_look_row_1 ((List.range' k n).map fun (i : Nat) => D.int i) [some (.lst (r.map D.int)), a] = .nx [some (.lst (r.map D.int)), a']
  | 0, k, a, _, _ => ⟨a, rfl⟩
  | n + 1, k, a, h1, h2 => by
    obtain ⟨a', e⟩ := look_loop r h n (k + 1) (some (.int (k : Int))) (by omega) (by omega)
    refine ⟨a', ?_⟩
    have lt : r[k - 1] < r[k] := List.pairwise_iff_getElem.mp h (k - 1) k (by omega) (by omega) (by omega)
    have e1 := int_in (l := r) (i := k) (by omega) (j := (k : Int)) rfl
    have e2 := int_in (l := r) (i := k - 1) (by omega) (j := (k : Int) - 1) (by omega)
    have nle : ¬ r[k] ≤ r[k - 1] := by omega
    generalize r[k] = x at *
    generalize r[k - 1] = y at *
    have b : b_look_row_1 [some (.lst (r.map D.int)), some (.int (k : Int))] = .nx [some (.lst (r.map D.int)), some (.int (k : Int))] := by
      simp [b_look_row_1, e1, e2, nle, -dIdx]
    rw [List.range'_succ, List.map_cons, ← e]
    show (match b_look_row_1 [some (.lst (r.map D.int)), some (.int (k : Int))] with
      | .nx r' => forL (.one 1) b_look_row_1 ((List.range' (k + 1) n).map fun (i : Nat) => D.int i) r'
      | o => o) = _
    rw [b]
theorem look_row_ok (r : List Int) (h : Rising r) (hl : r.length ≤ 60) : f_look_row [.lst (r.map D.int)] = .ok .non := by
  have d : dRange2 (.int 1) (.int (r.length : Int)) = _ := dRange2_gen 1 r.length (by decide) (by omega)
  have c : ¬ (60 : Int) < (r.length : Int) := by omega
  by_cases z : r.length = 0
  · have z' : r = [] := List.length_eq_zero_iff.mp z
    subst z'
    have d' : dRange2 (.int 1) (.int 0) = .ok [] := d
    simp [f_look_row, m_look_row, d', forL]
  · obtain ⟨a', e⟩ := look_loop r h (r.length - 1) 1 none (by omega) (by omega)
    generalize (List.range' 1 (r.length - 1)).map (fun (i : Nat) => D.int i) = rr at *
    simp [f_look_row, m_look_row, d, e, c]
theorem share_ok (ps : List (Int × Int)) (s : Int) : f_share [.lst (ps.map twoD), .int s] = .ok (.int (share ps s)) := by
  have c : gComp (gIter (gVar 0)) (.tup [2, 3]) [2, 3] gYes (gCall fMin2 (VL.gCons (gVar 1) (VL.gCons (gVar 2) VL.gNil))) [some (.lst (ps.map twoD)), some (.int s), none, none] = .ok (.lst (ps.map fun p => D.int (if p.1 < s then p.1 else s))) :=
    gComp_map (F := twoD) rfl fun p _ => by simp [gTurn, twoD]
  simp [f_share, m_share, c, fSum_map, share]
theorem mark_ok (ps : List (Int × Int)) (s p : Int) : f_mark [.lst (ps.map twoD), .int s, .int p] = .ok (.int (p - 2 * share ps s)) := by
  have m : mulOk 2 (share ps s) = true := mulOk_left (by decide) (by decide)
  simp [f_mark, m_mark, share_ok, m]

theorem fold_longest (ps : List (Int × Int)) (q : Int) : ∀ (l : List (Int × Int)) (b : Int), let m := l.foldl (fun (b : Int) (p : Int × Int) => if b < p.1 ∧ vac ps p = q then p.1 else b) b
    (m = b ∨ ∃ p ∈ l, vac ps p = q ∧ p.1 = m) ∧ b ≤ m ∧ ∀ p ∈ l, vac ps p = q → p.1 ≤ m
  | [], b => ⟨.inl rfl, Int.le_refl _, fun p hp => nomatch hp⟩
  | x :: l, b => by
    obtain ⟨h1, h2, h3⟩ := fold_longest ps q l (if b < x.1 ∧ vac ps x = q then x.1 else b)
    rw [List.foldl_cons]
    generalize l.foldl (fun (b : Int) (p : Int × Int) => if b < p.1 ∧ vac ps p = q then p.1 else b) (if b < x.1 ∧ vac ps x = q then x.1 else b) = m at *
    by_cases c : b < x.1 ∧ vac ps x = q
    · rw [if_pos c] at h1 h2
      refine ⟨?_, by omega, fun p hp v => ?_⟩
      · rcases h1 with z | ⟨p, hp, z⟩
        · exact .inr ⟨x, List.mem_cons_self, c.2, z.symm⟩
        · exact .inr ⟨p, List.mem_cons_of_mem _ hp, z⟩
      · rcases List.mem_cons.mp hp with z | z
        · rw [z]; exact h2
        · exact h3 p z v
    · rw [if_neg c] at h1 h2
      refine ⟨?_, h2, fun p hp v => ?_⟩
      · rcases h1 with z | ⟨p, hp, z⟩
        · exact .inl z
        · exact .inr ⟨p, List.mem_cons_of_mem _ hp, z⟩
      · rcases List.mem_cons.mp hp with z | z
        · subst z
          have : ¬ b < p.1 := fun w => c ⟨w, v⟩
          omega
        · exact h3 p z v
theorem fold_is_longest {ps : List (Int × Int)} (h : Posi ps) (q : Int) : ps.foldl (fun (b : Int) (p : Int × Int) => if b < p.1 ∧ vac ps p = q then p.1 else b) 0 = longest ps q := by
  obtain ⟨h1, h2, h3⟩ := fold_longest ps q ps 0
  generalize ps.foldl (fun (b : Int) (p : Int × Int) => if b < p.1 ∧ vac ps p = q then p.1 else b) 0 = m at *
  have k : ∀ t ∈ ripes ps q, t ≤ m := fun t ht => by
    have := h3 _ (mem_ripes.mp ht) (by unfold vac; show q - 2 * share ps t + 2 * share ps t = q; omega)
    exact this
  rcases h1 with z | ⟨p, hp, v, e⟩
  · refine (longest_none fun t ht => ?_).symm ▸ z
    have a := k t ht
    have b := h _ (mem_ripes.mp ht)
    have b' : 1 ≤ t := b
    omega
  · exact (longest_of (List.mem_map.mpr ⟨p, List.mem_filter.mpr ⟨hp, by simpa using v⟩, e⟩) k).symm
theorem vac_iff (ps : List (Int × Int)) (p : Int × Int) (q : Int) : p.2 = q - 2 * share ps p.1 ↔ vac ps p = q := by
  unfold vac
  omega
theorem longest_ripe_ok (ps : List (Int × Int)) (q : Int) (h : Posi ps) : f_longest_ripe [.lst (ps.map twoD), .int q] = .ok (.int (longest ps q)) := by
  obtain ⟨r', e, a, b, hr⟩ := forL_fold twoD (fun (b : Int) (p : Int × Int) => if b < p.1 ∧ vac ps p = q then p.1 else b) (fun b r => ∃ x y, r = [some (.lst (ps.map twoD)), some (.int q), some (.int b), x, y]) (.tup [3, 4]) b_longest_ripe_1 ps 0 [some (.lst (ps.map twoD)), some (.int q), some (.int 0), none, none] ⟨none, none, rfl⟩ (fun p _ b r ⟨x, y, e⟩ => by
    subst e
    refine ⟨[.int p.1, .int p.2], _, rfl, ?_, ⟨some (.int p.1), some (.int p.2), rfl⟩⟩
    have v := vac_iff ps p q
    by_cases c1 : b < p.1 <;> by_cases c2 : p.2 = q - 2 * share ps p.1
    · simp [b_longest_ripe_1, mark_ok, c1, c2, v.mp c2]
    · have c3 : ¬ vac ps p = q := fun z => c2 (v.mpr z)
      simp [b_longest_ripe_1, mark_ok, c1, c2, c3]
    · simp [b_longest_ripe_1, mark_ok, c1]
    · simp [b_longest_ripe_1, mark_ok, c1])
  subst hr
  rw [fold_is_longest h] at e
  simp [f_longest_ripe, m_longest_ripe, e]
theorem grown_ok (ps : List (Int × Int)) (p : Int) (h : Posi ps) (hz : ps.length < 1000) : f_grown [.lst (ps.map twoD), .int p] = .ok (.lst ((grow ps p).map twoD)) := by
  have e1 := longest_ripe_ok ps (p - 1) h
  have m2 : ∀ x : Int, mulOk 2 x = true := fun x => mulOk_left (by decide) (by decide)
  by_cases c : 0 < longest ps (p - 1)
  · have rm := remL_ok (x := (longest ps (p - 1), p - 1 - 2 * share ps (longest ps (p - 1)))) (longest_mem c) (le_szL (by omega))
    have l1 : (ps.erase (longest ps (p - 1), p - 1 - 2 * share ps (longest ps (p - 1)))).length < szL := lt_szL (Nat.lt_of_le_of_lt List.length_erase_le (by omega))
    unfold grow
    rw [if_pos c]
    generalize longest ps (p - 1) = s at *
    generalize ps.erase (s, p - 1 - 2 * share ps s) = fr at *
    rw [← app_pair]
    simp [f_grown, m_grown, e1, c, mark_ok, rm, share_ok, m2, l1]
  · have l1 : ps.length < szL := lt_szL (by omega)
    unfold grow
    rw [if_neg c]
    generalize longest ps (p - 1) = s at *
    rw [← app_pair]
    simp [f_grown, m_grown, e1, c, mark_ok, share_ok, m2, l1]
theorem grow_len (ps : List (Int × Int)) (p : Int) : (grow ps p).length ≤ ps.length + 1 := by
  unfold grow
  rw [List.length_append]
  have : (if 0 < longest ps (p - 1) then ps.erase (longest ps (p - 1), p - 1 - 2 * share ps (longest ps (p - 1))) else ps).length ≤ ps.length := by
    split
    · exact List.length_erase_le
    · exact Nat.le_refl _
  simp
  omega
def lists (r : List Int) : List (Int × Int) := sortBy ltII (heap r)
theorem heap_sorted (r : List Int) : fSorted [.lst ((heap r).map twoD)] = .ok (.lst ((lists r).map twoD)) := fSorted_two _

theorem list_of_ok (r : List Int) (hl : r.length ≤ 500) : f_list_of [.lst (r.map D.int)] = .ok (.lst ((lists r).map twoD)) := by
  obtain ⟨r', e, _, _, a, hr⟩ := forL_foldI D.int grow (fun n s t => Posi s ∧ s.length ≤ n ∧ ∃ x, t = [some (.lst (r.map D.int)), some (.lst (s.map twoD)), x]) (.one 2) b_list_of_1 r 0 [] [some (.lst (r.map D.int)), some (.lst []), none] ⟨fun p hp => (nomatch hp), by simp, none, rfl⟩ (fun i p hi hp s t ⟨h1, h2, x, e⟩ => by
    subst e
    refine ⟨[.int p], _, rfl, ?_, ⟨grow_posi h1 p, by have := grow_len s p; omega, some (.int p), rfl⟩⟩
    simp [b_list_of_1, grown_ok s p h1 (by omega)])
  subst hr
  have hs : fSorted [.lst ((r.foldl grow []).map twoD)] = _ := heap_sorted r
  simp [f_list_of, m_list_of, e, hs]

theorem grows_len : ∀ (r : List Int) (ps : List (Int × Int)), (r.foldl grow ps).length ≤ ps.length + r.length
  | [], _ => Nat.le_refl _
  | p :: r, ps => by
    have a := grows_len r (grow ps p)
    have b := grow_len ps p
    simp
    omega
theorem lists_len (r : List Int) : (lists r).length ≤ r.length := by
  have a := grows_len r []
  have b := (sortBy_perm (lt := ltII) (heap r)).length_eq
  unfold lists
  rw [b]
  exact Nat.le_trans a (by simp)
theorem fMax1_ints {l : List Int} (n : l ≠ []) : fMax1 [.lst (l.map D.int)] = .ok (.int (lmax l)) := by
  dsimp only [fMax1]
  rw [intsOf_map]
  dsimp only
  rw [if_neg n]
theorem next_place_ok (ps : List (Int × Int)) (n : ps ≠ []) : f_next_place [.lst (ps.map twoD)] = .ok (.int (topP ps)) := by
  have c : gComp (gIter (gVar 0)) (.tup [1, 2]) [1, 2] gYes (gBin dAdd (gVar 2) (gBin dMul (gC (.int 2)) (gCall f_share (VL.gCons (gVar 0) (VL.gCons (gVar 1) VL.gNil))))) [some (.lst (ps.map twoD)), none, none] = .ok (.lst (ps.map fun p => D.int (vac ps p))) :=
    gComp_map (F := twoD) rfl fun p _ => by simp [gTurn, twoD, share_ok, mul2, vac]
  have e : (ps.map fun p => D.int (vac ps p)) = (ps.map (vac ps)).map D.int := by rw [List.map_map]; rfl
  rw [e] at c
  have m := fMax1_ints (l := ps.map (vac ps)) (by simpa using n)
  generalize (ps.map (vac ps)).map D.int = vv at *
  simp [f_next_place, m_next_place, c, m, topP]
theorem shrink_len (ps : List (Int × Int)) (n : ps ≠ []) : (shrink ps (topP ps)).length ≤ ps.length := by
  have r : (rest ps (topP ps)).length + 1 = ps.length := (rest_cons n).length_eq.symm
  unfold shrink
  split
  · simp; omega
  · omega
theorem fMin1_ints {l : List Int} (n : l ≠ []) : fMin1 [.lst (l.map D.int)] = .ok (.int (lmin l)) := by
  dsimp only [fMin1]
  rw [intsOf_map]
  dsimp only
  rw [if_neg n]
theorem shortest_ripe_ok (ps : List (Int × Int)) (q : Int) (n : ripes ps q ≠ []) : f_shortest_ripe [.lst (ps.map twoD), .int q] = .ok (.int (shortest ps q)) := by
  have c := gComp_filter (gi := gIter (gVar 0)) (t := .tup [2, 3]) (vs := [2, 3]) (tt := gTest (gBin dEq (gVar 3) (gCall f_mark (VL.gCons (gVar 0) (VL.gCons (gVar 2) (VL.gCons (gVar 1) VL.gNil)))))) (ge := gVar 2)
    (r := [some (.lst (ps.map twoD)), some (.int q), none, none]) (l := ps) (F := twoD) (p := fun p => vac ps p == q) (G := fun p => D.int p.1) rfl (fun p _ => by
      have v := vac_iff ps p q
      by_cases c : p.2 = q - 2 * share ps p.1
      · simp [gTurn, twoD, mark_ok, c, v.mp c]
      · have c3 : ¬ vac ps p = q := fun z => c (v.mpr z)
        simp [gTurn, twoD, mark_ok, c, c3])
  have e : ((ps.filter fun p => vac ps p == q).map fun p => D.int p.1) = (ripes ps q).map D.int := by unfold ripes; rw [List.map_map]; rfl
  rw [e] at c
  have m := fMin1_ints n
  generalize (ripes ps q).map D.int = vv at *
  simp [f_shortest_ripe, m_shortest_ripe, c, m, shortest]
theorem shrunk_ok (ps : List (Int × Int)) (n : ps ≠ []) (hz : ps.length < 1000) : f_shrunk [.lst (ps.map twoD), .int (topP ps)] = .ok (.lst ((shrink ps (topP ps)).map twoD)) := by
  have e1 := shortest_ripe_ok ps (topP ps) (top_some n)
  have rm := remL_ok (x := (shortest ps (topP ps), topP ps - 2 * share ps (shortest ps (topP ps)))) (short_mem n) (le_szL (by omega))
  have l1 : (rest ps (topP ps)).length < szL := lt_szL (Nat.lt_of_le_of_lt List.length_erase_le (by omega))
  unfold shrink
  unfold rest at *
  generalize topP ps = t at *
  generalize shortest ps t = s at *
  generalize ps.erase (s, t - 2 * share ps s) = fr at *
  by_cases c : 1 < s
  · rw [if_pos c, ← app_pair]
    simp [f_shrunk, m_shrunk, e1, c, mark_ok, rm, share_ok, mul2, l1]
  · rw [if_neg c]
    simp [f_shrunk, m_shrunk, e1, c, mark_ok, rm]
theorem stones_loop : ∀ (n : Nat) (m : Nat) (ps : List (Int × Int)) (acc : List Int) (x : Option D), Posi ps → weight ps ≤ n → ps.length ≤ 900 → n < m → acc.length + n ≤ 10000 →
    ∃ x', whileL (gTest (gBin dNe (gVar 0) (gLst VL.gNil))) b_stones_of_1 m [some (.lst (ps.map twoD)), some (.lst (acc.map D.int)), x] = .nx [some (.lst []), some (.lst ((acc ++ stonesD n ps).map D.int)), x']
  | n, 0, _, _, _, _, _, _, h, _ => by omega
  | 0, m + 1, ps, acc, x, hp, w, hl, _, _ => by
    have e := weight_zero hp (by omega)
    subst e
    refine ⟨x, ?_⟩
    have t := ne_nil_two [] (by decide)
    have t' : dNe (.lst []) (.lst []) = .ok (.bl false) := t
    rw [whileL_fin (by simp [t'])]
    simp [stonesD]
  | n + 1, m + 1, ps, acc, x, hp, w, hl, hm, ha => by
    have t := ne_nil_two ps (by omega)
    by_cases e : ps = []
    · subst e
      have t' : dNe (.lst []) (.lst []) = .ok (.bl false) := t
      refine ⟨x, ?_⟩
      rw [whileL_fin (by simp [t'])]
      simp [stonesD]
    · have e1 := next_place_ok ps e
      have e2 := shrunk_ok ps e (by omega)
      have ws := weight_shrink e hp
      have sl := shrink_len ps e
      obtain ⟨x', ih⟩ := stones_loop n m (shrink ps (topP ps)) (acc ++ [topP ps]) (some (.int (topP ps))) (shrink_posi hp _) (by omega) (by omega) (by omega) (by simp; omega)
      refine ⟨x', ?_⟩
      have lz : acc.length < szL := lt_szL (by omega)
      rw [whileL_turn (r' := [some (.lst ((shrink ps (topP ps)).map twoD)), some (.lst ((acc ++ [topP ps]).map D.int)), some (.int (topP ps))]) (by simp [t, e]) (by simp [b_stones_of_1, e1, e2, lz]), ih]
      rw [stonesD_succ, if_neg e, List.append_assoc]
      rfl
theorem stones_of_ok (ps : List (Int × Int)) (h : Posi ps) (w : weight ps ≤ 5000) (hl : ps.length ≤ 900) : f_stones_of [.lst (ps.map twoD)] = .ok (.lst ((stones ps).map D.int)) := by
  obtain ⟨x, e⟩ := stones_loop (weight ps) WB ps [] none h (Nat.le_refl _) hl (by rw [WB_eq]; omega) (by simp; omega)
  rw [List.nil_append] at e
  have e' : whileL (gTest (gBin dNe (gVar 0) (gLst VL.gNil))) b_stones_of_1 WB [some (.lst (ps.map twoD)), some (.lst []), none] = _ := e
  simp [f_stones_of, m_stones_of, e', stones, List.map_reverse]

theorem lists_posi (r : List Int) : Posi (lists r) := fun p hp => grows_posi r (ps := []) (fun p hp => (nomatch hp)) p ((sortBy_perm _).mem_iff.mp hp)
theorem lists_weight (r : List Int) : weight (lists r) = r.length := by
  unfold lists heap
  rw [weight_perm (sortBy_perm _), weight_grows r (ps := []) (fun p hp => (nomatch hp))]
  simp [weight]
theorem far_ok (r : List Int) (ws : List (Int × Int)) (hr : Rising r) (hl : r.length ≤ 60) (hw : Walks ws) : f_far [.lst (r.map D.int), .lst (ws.map twoD)] = .ok (.lst ((farR r ws).map D.int)) := by
  have a := look_row_ok r hr hl
  have b := look_walks_any ws
  rw [walks_badW' hw, if_neg (by simp)] at b
  have l1 := list_of_ok r (by omega)
  have po := lists_posi r
  have we := lists_weight r
  have ll := lists_len r
  have l2 := added_to_ok (lists r) ws hw po (by omega)
  have sp := sortBy_perm (lt := ltII) (addL (lists r) ws)
  have l3 := stones_of_ok (sortBy ltII (addL (lists r) ws)) (fun p hp => addL_posi po ws p (sp.mem_iff.mp hp)) (by rw [weight_perm sp, addL_weight]; omega) (by rw [sp.length_eq]; unfold addL; rw [List.length_map]; omega)
  unfold farR
  rw [stones_perm_eq (sp.trans (addL_perm (sortBy_perm (heap r)) ws))] at l3
  simp [f_far, m_far, a, b, l1, l2, l3]
theorem stones_len : ∀ (n : Nat) {ps : List (Int × Int)}, Posi ps → weight ps ≤ n → (stonesD n ps).length = weight ps
  | 0, ps, h, w => by
    rw [weight_zero h (by omega)]
    rfl
  | n + 1, ps, h, w => by
    unfold stonesD
    by_cases e : ps = []
    · rw [if_pos e, e]
      rfl
    · have q := weight_shrink e h
      rw [if_neg e, List.length_cons, stones_len n (shrink_posi h (topP ps)) (by omega)]
      exact q
theorem stones_length (ps : List (Int × Int)) (h : Posi ps) : (stones ps).length = weight ps := by
  unfold stones
  rw [List.length_reverse]
  exact stones_len (weight ps) h (Nat.le_refl _)
theorem farR_len (r : List Int) (ws : List (Int × Int)) : (farR r ws).length = r.length := by
  unfold farR
  rw [stones_length _ (addL_posi (heap_posi r) ws), addL_weight, heap_weight]
theorem byw_cons (w : Int × Int) (ws : List (Int × Int)) (s : Int) : byw (w :: ws) s = w.2 * lsr s w.1 + byw ws s := by simp [byw, lsr]
theorem byw_app (us ws : List (Int × Int)) (s : Int) : byw (us ++ ws) s = byw us s + byw ws s := by simp [byw]
theorem byw_nil (s : Int) : byw [] s = 0 := rfl

theorem Rc.mono {N M : Nat} {a b : List Int} (h : Rc N a b) (l : M ≤ N) : Rc M a b := by
  rcases h with h | ⟨C, a', b', h1, h2, h3⟩
  · exact .inl h
  · exact .inr ⟨C, a', b', h1, h2, by omega⟩
theorem Rc.take {N k : Nat} {a b : List Int} (h : Rc N a b) (l : k ≤ N) : a.take k = b.take k := by
  rcases h with h | ⟨C, a', b', h1, h2, h3⟩
  · rw [h]
  · rw [h1, h2, List.take_append_of_le_length (by omega), List.take_append_of_le_length (by omega)]
theorem Rc.drop {N k : Nat} {a b : List Int} (h : Rc N a b) (l : k ≤ N) : Rc (N - k) (a.drop k) (b.drop k) := by
  rcases h with h | ⟨C, a', b', h1, h2, h3⟩
  · exact .inl (by rw [h])
  · refine .inr ⟨C.drop k, a', b', ?_, ?_, by rw [List.length_drop]; omega⟩
    · rw [h1, List.drop_append_of_le_length (by omega)]
    · rw [h2, List.drop_append_of_le_length (by omega)]
/-- .. all as deep -/
inductive RA (M : Nat) : List Run → List Run → Prop
  | nil : RA M [] []
  | cons {p q : Run} {P L : List Run} : R1 (M + 1) p q → RA M P L → RA M (p :: P) (q :: L)
theorem RA.app {M : Nat} {P L : List Run} (h : RA M P L) {p q : Run} (h2 : R1 (M + 1) p q) : RA M (P ++ [p]) (L ++ [q]) := by
  induction h with
  | nil => exact .cons h2 .nil
  | cons h _ ih => exact .cons h ih
theorem Rc.app {N : Nat} {a b x y : List Int} (h : Rc N a b) (h2 : Rc N x y) : Rc N (a ++ x) (b ++ y) := by
  rcases h with h | ⟨C, a', b', e1, e2, e3⟩
  · subst h
    rcases h2 with h2 | ⟨C, a', b', e1, e2, e3⟩
    · exact .inl (by rw [h2])
    · exact .inr ⟨a ++ C, a', b', by rw [e1, List.append_assoc], by rw [e2, List.append_assoc], by rw [List.length_append]; omega⟩
  · exact .inr ⟨C, a' ++ x, b' ++ y, by rw [e1, List.append_assoc], by rw [e2, List.append_assoc], e3⟩
theorem R1.mono {N M : Nat} {p q : Run} (h : R1 N p q) (l : M ≤ N) : R1 M p q := ⟨h.1, h.2.1, Rc.mono h.2.2 l⟩
/-- lists of runs, the last one place less deep -/
inductive RR (M : Nat) : List Run → List Run → Prop
  | nil : RR M [] []
  | last {p q : Run} : R1 M p q → RR M [p] [q]
  | cons {p q : Run} {P L : List Run} : R1 (M + 1) p q → RR M P L → RR M (p :: P) (q :: L)
theorem RR.mono {M N : Nat} {P L : List Run} (h : RR M P L) (l : N ≤ M) : RR N P L := by
  induction h with
  | nil => exact .nil
  | last h => exact .last (R1.mono h l)
  | cons h _ ih => exact .cons (R1.mono h (by omega)) ih
theorem RA.toR {M : Nat} {P L : List Run} (h : RA M P L) : RR M P L := by
  induction h with
  | nil => exact .nil
  | cons h _ ih => exact .cons h ih
theorem RA.appL {M : Nat} {P L : List Run} (h : RA M P L) {p q : Run} (h2 : R1 M p q) : RR M (P ++ [p]) (L ++ [q]) := by
  induction h with
  | nil => exact .last h2
  | cons h _ ih => exact .cons h ih
theorem Drawn.snoc {l : List Int} {x : Int} (h : Drawn l) (h1 : 0 ≤ x) (h2 : x < 9967) : Drawn (l ++ [x]) := fun d hd => by
  rcases List.mem_append.mp hd with z | z
  · exact h d z
  · have : d = x := by simpa using z
    subst this
    exact ⟨h1, h2⟩
theorem Alt.snoc {f : List Run} {l r : Run} (h : Alt (f ++ [l])) (e1 : l.1 ≠ r.1) (e2 : r.2 ≠ []) : Alt (f ++ [l] ++ [r]) := by
  refine ⟨fun p hp => ?_, fun p hp => ?_, fun A B p q e => ?_⟩
  · rcases List.mem_append.mp hp with w | w
    · exact h.ne p w
    · rw [List.mem_singleton.mp w]; exact e2
  · cases f with
    | nil => exact h.hd p hp
    | cons a f => exact h.hd p hp
  · rcases List.eq_nil_or_concat B with w | ⟨B0, b, w⟩
    · subst w
      have e3 : f ++ [l] ++ [r] = (A ++ [p]) ++ [q] := by rw [e]; simp
      obtain ⟨e4, e5⟩ := List.append_inj' e3 rfl
      cases e5
      obtain ⟨_, e7⟩ := List.append_inj' e4 rfl
      cases e7
      exact e1
    · rw [List.concat_eq_append] at w
      subst w
      have e3 : f ++ [l] ++ [r] = (A ++ p :: q :: B0) ++ [b] := by rw [e]; simp
      obtain ⟨e4, _⟩ := List.append_inj' e3 rfl
      exact h.ch A B0 p q e4
theorem RA.snoc {M : Nat} {P L : List Run} (h : RA M P L) : (P = [] ∧ L = []) ∨ ∃ P0 p L0 q, P = P0 ++ [p] ∧ L = L0 ++ [q] ∧ RA M P0 L0 ∧ R1 (M + 1) p q := by
  induction h with
  | nil => exact .inl ⟨rfl, rfl⟩
  | cons h hr ih =>
    right
    rcases ih with ⟨rfl, rfl⟩ | ⟨P0, p, L0, q, rfl, rfl, h1, h2⟩
    · exact ⟨[], _, [], _, rfl, rfl, .nil, h⟩
    · exact ⟨_ :: P0, p, _ :: L0, q, rfl, rfl, .cons h h1, h2⟩
theorem Alt.snocL {f : List Run} {l : Run} (h : Alt (f ++ [l])) {l2 : Run} (e1 : l2.1 = l.1) (e2 : l2.2 ≠ []) : Alt (f ++ [l2]) := by
  refine ⟨fun p hp => ?_, fun p hp => ?_, fun A B p q e => ?_⟩
  · rcases List.mem_append.mp hp with w | w
    · exact h.ne p (List.mem_append_left _ w)
    · rw [List.mem_singleton.mp w]; exact e2
  · cases f with
    | nil =>
      have := h.hd l rfl
      cases hp
      rw [e1]; exact this
    | cons a f => exact h.hd p hp
  · rcases List.eq_nil_or_concat B with w | ⟨B0, b, w⟩
    · subst w
      have e3 : f ++ [l2] = (A ++ [p]) ++ [q] := by rw [e]; simp
      obtain ⟨e4, e5⟩ := List.append_inj' e3 rfl
      cases e5
      have := h.ch A [] p l (by rw [e4]; simp)
      rw [e1]; exact this
    · rw [List.concat_eq_append] at w
      subst w
      have e3 : f ++ [l2] = (A ++ p :: q :: B0) ++ [b] := by rw [e]; simp
      obtain ⟨e4, e5⟩ := List.append_inj' e3 rfl
      exact h.ch A (B0 ++ [l]) p q (by rw [e4]; simp)
theorem any_int (r : List Int) (v : Int) : ((r.map D.int).any fun z => dEqB z (.int v)) = decide (v ∈ r) := by
  rw [List.any_map]
  rw [Bool.eq_iff_iff, List.any_eq_true]
  constructor
  · rintro ⟨x, hx, e⟩
    have e' : (x == v) = true := e
    have : x = v := by simpa using e'
    subst this
    simpa using hx
  · intro h
    have h' : v ∈ r := by simpa using h
    exact ⟨v, h', by show (v == v) = true; simp⟩
theorem in_ints (r : List Int) (v : Int) (hl : r.length ≤ 1000) : dIn (.int v) (.lst (r.map D.int)) = .ok (.bl (decide (v ∈ r))) := by
  dsimp only [dIn]
  have h1 : shp (.int v) = true := rfl
  have h2 : shp (.lst (r.map D.int)) = true := pl_shp (n := 2) (by decide) (pl_ints (n := 0) (le_szL (by omega)))
  rw [h1, h2, any_int]
  rfl

theorem pick4 (a b c d x : Int) : ∃ v : Int, (v = a ∨ v = b ∨ v = c ∨ v = d) ∧ dIdx (.lst [.int a, .int b, .int c, .int d]) (.int (x.fmod 4)) = .ok (.int v) := by
  have f := fmod_pos (a := x) (b := 4) (by decide)
  rcases (show x.fmod 4 = 0 ∨ x.fmod 4 = 1 ∨ x.fmod 4 = 2 ∨ x.fmod 4 = 3 by omega) with h | h | h | h <;> rw [h]
  · exact ⟨a, .inl rfl, dIdx_list (i := 0) rfl⟩
  · exact ⟨b, .inr (.inl rfl), dIdx_list (i := 1) rfl⟩
  · exact ⟨c, .inr (.inr (.inl rfl)), dIdx_list (i := 2) rfl⟩
  · exact ⟨d, .inr (.inr (.inr rfl)), dIdx_list (i := 3) rfl⟩
theorem app_ints (l : List Int) (x : Int) : l.map D.int ++ [D.int x] = (l ++ [x]).map D.int := by simp
theorem row_loop (l : List Int) (h : Drawn l) (M : D) : ∀ (n k : Nat) (p : Int) (acc : List Int) (a b : Option D), 3 + k + n ≤ l.length → acc.length + n ≤ 1000 → Rising acc → (∀ x ∈ acc, x ≤ p) → 3 ≤ l.length → (∀ x ∈ acc, -15 ≤ x) → -15 ≤ p → ∃ p' acc' a' b',
    forL (.one 4) b_row_L_1 ((List.range' k n).map fun (i : Nat) => D.int i) [some (.lst (l.map D.int)), some M, some (.int p), some (.lst (acc.map D.int)), a, b] =
      .nx [some (.lst (l.map D.int)), some M, some (.int p'), some (.lst (acc'.map D.int)), a', b'] ∧ acc'.length = acc.length + n ∧ Rising acc' ∧ (∀ x ∈ acc', x ≤ p') ∧ p' ≤ p + 12 * (n : Int) ∧ ∀ x ∈ acc', -15 ≤ x
  | 0, k, p, acc, a, b, _, _, h3, h4, _, h6, _ => ⟨p, acc, a, b, rfl, rfl, h3, h4, by omega, h6⟩
  | n + 1, k, p, acc, a, b, h1, h2, h3, h4, h5, h6, h7 => by
    obtain ⟨v, v1, v2, e1⟩ := drawn_get h (i := 3 + k) (by omega) (j := 3 + (k : Int)) (by omega)
    obtain ⟨w, w1, w2, e2⟩ := drawn_get h (i := 2) (by omega) (j := 2) rfl
    obtain ⟨m, hm, em⟩ := pick4 2 3 5 12 w
    have m0 : ¬ m = 0 := by omega
    have f := fmod_pos (a := v.fdiv 3) (b := m) (by omega)
    have hz : acc.length < szL := lt_szL (by omega)
    have key : ∃ p2, p < p2 ∧ p2 ≤ p + 12 ∧ b_row_L_1 [some (.lst (l.map D.int)), some M, some (.int p), some (.lst (acc.map D.int)), some (.int (k : Int)), b] =
        .nx [some (.lst (l.map D.int)), some M, some (.int p2), some (.lst ((acc ++ [p2]).map D.int)), some (.int (k : Int)), some (.int v)] := by
      by_cases c : v.fmod 3 = 0
      · refine ⟨p + 1 + 0, by omega, by omega, ?_⟩
        rw [← app_ints]
        simp [b_row_L_1, e1, e2, em, c, hz, -dIdx]
      · refine ⟨p + 1 + (v.fdiv 3).fmod m, by omega, by omega, ?_⟩
        rw [← app_ints]
        simp [b_row_L_1, e1, e2, em, c, hz, m0, -dIdx]
    obtain ⟨p2, lt, le12, eb⟩ := key
    obtain ⟨p', acc', a', b', f1, f2, f3, f4, f5, f6⟩ := row_loop l h M n (k + 1) p2 (acc ++ [p2]) (some (.int (k : Int))) (some (.int v)) (by omega) (by simp; omega)
      (List.pairwise_append.mpr ⟨h3, List.pairwise_singleton _ _, fun x hx y hy => by
        have : y = p2 := by simpa using hy
        subst this
        exact Int.lt_of_le_of_lt (h4 x hx) lt⟩) (fun x hx => by
        rcases List.mem_append.mp hx with z | z
        · exact Int.le_trans (h4 x z) (by omega)
        · have : x = p2 := by simpa using z
          omega) h5 (fun x hx => by
        rcases List.mem_append.mp hx with z | z
        · exact h6 x z
        · have : x = p2 := by simpa using z
          omega) (by omega)
    refine ⟨p', acc', a', b', ?_, by rw [f2]; simp; omega, f3, f4, by omega, f6⟩
    rw [List.range'_succ, List.map_cons, ← f1]
    show (match b_row_L_1 [some (.lst (l.map D.int)), some M, some (.int p), some (.lst (acc.map D.int)), some (.int (k : Int)), b] with
      | .nx r' => forL (.one 4) b_row_L_1 ((List.range' (k + 1) n).map fun (i : Nat) => D.int i) r'
      | o => o) = _
    rw [eb]
theorem row_okC (l : List Int) (h : Drawn l) (most : Nat) (hm : most ≤ 500) (hl : 3 + most ≤ l.length) : ∃ r : List Int, f_row_L [.lst (l.map D.int), .int most] = .ok (.lst (r.map D.int)) ∧ r.length ≤ most ∧ Rising r ∧ (∀ x ∈ r, x ≤ 15 + 12 * (most : Int)) ∧ ∀ x ∈ r, -15 ≤ x := by
  obtain ⟨v0, p0, q0, e0⟩ := drawn_get h (i := 0) (by omega) (j := 0) rfl
  obtain ⟨v1, p1, q1, e1⟩ := drawn_get h (i := 1) (by omega) (j := 1) rfl
  have f := fmod_pos (a := v1) (b := (most : Int) + 1) (by omega)
  have d := dRange1_nat (n := (v1.fmod ((most : Int) + 1)).toNat) (by omega)
  rw [Int.toNat_of_nonneg f.1, range_split] at d
  have f31 := fmod_pos (a := v0) (b := 31) (by decide)
  obtain ⟨p', acc', a', b', g1, g2, g3, g4, g5, g6⟩ := row_loop l h (.int most) (v1.fmod ((most : Int) + 1)).toNat 0 (v0.fmod 31 - 15) [] none none (by omega) (by simp; omega) List.Pairwise.nil (fun x hx => nomatch hx) (by omega) (fun x hx => nomatch hx) (by omega)
  refine ⟨acc', ?_, by rw [g2]; simp; omega, g3, (fun x hx => by have := g4 x hx; omega), g6⟩
  have g1' : forL (.one 4) b_row_L_1 ((List.range' 0 (v1.fmod ((most : Int) + 1)).toNat).map fun (i : Nat) => D.int i) [some (.lst (l.map D.int)), some (.int most), some (.int (v0.fmod 31 - 15)), some (.lst []), none, none] = _ := g1
  have m0 : ¬ (most : Int) + 1 = 0 := by omega
  generalize (List.range' 0 (v1.fmod ((most : Int) + 1)).toNat).map (fun (i : Nat) => D.int i) = rr at *
  generalize l.map D.int = ll at *
  simp [f_row_L, m_row_L, e0, e1, m0, d, g1', -dIdx]
theorem rising_shift {r : List Int} (h : Rising r) (by_ : Int) : Rising (r.map (· + by_)) := by
  refine List.pairwise_map.mpr (h.imp fun {a b} z => ?_)
  omega
theorem rising_cut {r : List Int} (h : Rising r) (k : Nat) (by_ : Int) (hb : 0 ≤ by_) : Rising (r.take k ++ (r.drop k).map (· + by_)) := by
  refine List.pairwise_append.mpr ⟨h.take, rising_shift h.drop by_, fun x hx y hy => ?_⟩
  obtain ⟨z, hz, rfl⟩ := List.mem_map.mp hy
  have e : Rising (r.take k ++ r.drop k) := by rw [List.take_append_drop]; exact h
  have := (List.pairwise_append.mp e).2.2 x hx z hz
  omega

theorem long_row_okC (l : List Int) (h : Drawn l) (most : Nat) (hm : most ≤ 500) (hl : 3 + most ≤ l.length) : ∃ r : List Int, f_long_row_L [.lst (l.map D.int), .int most] = .ok (.lst (r.map D.int)) ∧ r.length ≤ most ∧ Rising r ∧ (∀ x ∈ r, x ≤ 15 + 12 * (most : Int) + 10 ^ 40) ∧ ∀ x ∈ r, -15 ≤ x := by
  obtain ⟨r, e, hr1, hr2, hr3, hr4⟩ := row_okC l h most hm hl
  obtain ⟨v2, p2, q2, e2⟩ := drawn_get h (i := 2) (by omega) (j := 2) rfl
  have k3 := dPow_ok (a := 10) (k := 3) (by decide) (by decide)
  have k12 := dPow_ok (a := 10) (k := 12) (by decide) (by decide)
  have k40 := dPow_ok (a := 10) (k := 40) (by decide) (by decide)
  have g3 : (0 : Int) ≤ 10 ^ 3 := by decide
  have g12 : (0 : Int) ≤ 10 ^ 12 := by decide
  have g40 : (0 : Int) ≤ 10 ^ 40 := by decide
  have h3 : (10 : Int) ^ 3 ≤ 10 ^ 40 := by decide
  have h12 : (10 : Int) ^ 12 ≤ 10 ^ 40 := by decide
  generalize (10 : Int) ^ 3 = c3 at k3 g3 h3
  generalize (10 : Int) ^ 12 = c12 at k12 g12 h12
  generalize (10 : Int) ^ 40 = c40 at *
  have k3' : dPow (.int 10) (.int 3) = .ok (.int c3) := k3
  have k12' : dPow (.int 10) (.int 12) = .ok (.int c12) := k12
  have k40' : dPow (.int 10) (.int 40) = .ok (.int c40) := k40
  obtain ⟨by_, hb, eb⟩ := pick4 0 c3 c12 c40 (v2.fdiv 64)
  have f := fmod_pos (a := v2.fdiv 4) (b := (r.length : Int) + 1) (by omega)
  have m0 : ¬ (r.length : Int) + 1 = 0 := by omega
  obtain ⟨k, hk⟩ : ∃ k : Nat, (v2.fdiv 4).fmod ((r.length : Int) + 1) = k := ⟨_, (Int.toNat_of_nonneg f.1).symm⟩
  have c1 : cutL (r.map D.int) none (some (k : Int)) = (r.take k).map D.int := by rw [cutL_to, List.map_take]
  have c2 : cutL (r.map D.int) (some (k : Int)) none = (r.drop k).map D.int := by rw [cutL_from (k := k) (by simp; omega), List.map_drop]
  have g : gComp (gIter (gSl (gVar 2) (gPart (gVar 3)) gNoPart)) (.one 5) [5] gYes (gBin dAdd (gVar 5) (gVar 4)) [some (.lst (l.map D.int)), some (.int most), some (.lst (r.map D.int)), some (.int k), some (.int by_), none] = .ok (.lst ((r.drop k).map fun x => D.int (x + by_))) :=
    gComp_map (F := D.int) (by simp [c2]) fun x _ => by simp [gTurn]
  refine ⟨r.take k ++ (r.drop k).map (· + by_), ?_, by simp; omega, rising_cut hr2 k by_ (by omega), fun x hx => ?_, fun x hx => ?_⟩
  rotate_left
  · rcases List.mem_append.mp hx with z | z
    · have := hr3 x (List.mem_of_mem_take z)
      omega
    · obtain ⟨y, hy, rfl⟩ := List.mem_map.mp z
      have := hr3 y (List.mem_of_mem_drop hy)
      show y + by_ ≤ _
      omega
  · rcases List.mem_append.mp hx with z | z
    · exact hr4 x (List.mem_of_mem_take z)
    · obtain ⟨y, hy, rfl⟩ := List.mem_map.mp z
      have := hr4 y (List.mem_of_mem_drop hy)
      show -15 ≤ y + by_
      omega
  have fin : (r.take k ++ (r.drop k).map (· + by_)).map D.int = (r.take k).map D.int ++ (r.drop k).map fun x => D.int (x + by_) := by
    rw [List.map_append, List.map_map]
    rfl
  have lz : ((r.take k).map D.int).length + ((r.drop k).map fun x => D.int (x + by_)).length ≤ szL := le_szL (by simp; omega)
  rw [fin]
  generalize (r.drop k).map (fun x => D.int (x + by_)) = dd at *
  generalize (r.take k).map D.int = tt at *
  generalize l.map D.int = ll at *
  simp [f_long_row_L, m_long_row_L, e, e2, eb, k3', k12', k40', m0, hk, c1, g, lz, -dIdx]
theorem long_row_okB (l : List Int) (h : Drawn l) (most : Nat) (hm : most ≤ 500) (hl : 3 + most ≤ l.length) : ∃ r : List Int, f_long_row_L [.lst (l.map D.int), .int most] = .ok (.lst (r.map D.int)) ∧ r.length ≤ most ∧ Rising r ∧ ∀ x ∈ r, x ≤ 15 + 12 * (most : Int) + 10 ^ 40 := by
  obtain ⟨r, h1, h2, h3, h4, _⟩ := long_row_okC l h most hm hl
  exact ⟨r, h1, h2, h3, h4⟩
theorem long_row_ok (l : List Int) (h : Drawn l) (most : Nat) (hm : most ≤ 500) (hl : 3 + most ≤ l.length) : ∃ r : List Int, f_long_row_L [.lst (l.map D.int), .int most] = .ok (.lst (r.map D.int)) ∧ r.length ≤ most ∧ Rising r := by
  obtain ⟨r, h1, h2, h3, _⟩ := long_row_okB l h most hm hl
  exact ⟨r, h1, h2, h3⟩

def built (f : Int → List Int) (gs : List (Int × Nat × Int)) : List (Int × Int) := (gs.map fun g => (f g.1).map fun o => (g.1, o)).flatten
theorem pow_ok1 : dPow (.int 10) (.int 18) = .ok (.int 1000000000000000000) := dPow_ok (k := 18) (by decide) (by decide)
theorem range60 : dRange1 (.int 60) = .ok ((List.range 60).map fun (i : Nat) => D.int i) := dRange1_nat (n := 60) (by decide)
theorem len60 : ((List.range 60).map fun (i : Nat) => D.int i).length = 60 := by simp
theorem numbers_in (s m : D) (c : Option D) : ∀ (js : List D) (acc : List Int) (rest : Int) (seed : Option D) (k : Option D), acc.length + js.length ≤ 200000 → Drawn acc → ∃ acc' rest' k',
    forL (.one 6) b_numbers_L_1 js [some s, some m, some (.lst (acc.map D.int)), seed, c, some (.int rest), k] = .nx [some s, some m, some (.lst (acc'.map D.int)), seed, c, some (.int rest'), k'] ∧ acc'.length ≤ acc.length + js.length ∧ Drawn acc'
  | [], acc, rest, seed, k, h1, h2 => ⟨acc, rest, k, rfl, by simp, h2⟩
  | j :: js, acc, rest, seed, k, h1, h2 => by
    rw [List.length_cons] at h1
    by_cases hr : 0 < rest
    · have f := fmod_pos (a := rest) (b := 1013) (by decide)
      obtain ⟨acc', rest', k', e1, e2, e3⟩ := numbers_in s m c js (acc ++ [rest.fmod 1013]) (rest.fdiv 1013) seed (some j) (by simp; omega) (h2.snoc f.1 (by omega))
      refine ⟨acc', rest', k', ?_, by simp at e2; rw [List.length_cons]; omega, e3⟩
      have hz : acc.length < szL := by exact lt_szL (by omega)
      have b : b_numbers_L_1 [some s, some m, some (.lst (acc.map D.int)), seed, c, some (.int rest), some j] = .nx [some s, some m, some (.lst ((acc ++ [rest.fmod 1013]).map D.int)), seed, c, some (.int (rest.fdiv 1013)), some j] := by
        simp [b_numbers_L_1, hr, hz]
      rw [← e1]
      simp [forL, b]
    · obtain ⟨acc', rest', k', e1, e2, e3⟩ := numbers_in s m c js acc rest seed (some j) (by omega) h2
      refine ⟨acc', rest', k', ?_, by rw [List.length_cons]; omega, e3⟩
      have b : b_numbers_L_1 [some s, some m, some (.lst (acc.map D.int)), seed, c, some (.int rest), some j] = .nx [some s, some m, some (.lst (acc.map D.int)), seed, c, some (.int rest), some j] := by
        simp [b_numbers_L_1, hr]
      rw [← e1]
      simp [forL, b]
theorem numbers_s1 (seed d : Int) (s m a x k : Option D) (hmul : mulOk seed 40014 = true) : mSet 3 (gBin dMod (gBin dAdd (gBin dAdd (gBin dMul (gVar 3) (gC (.int 40014))) (gBin dMod (gVar 4) (gC (.int 999983)))) (gC (.int 29))) (gC (.int 2147483563))) [s, m, a, some (.int seed), some (.int d), x, k] =
    .nx [s, m, a, some (.int ((seed * 40014 + d.fmod 999983 + 29).fmod 2147483563)), some (.int d), x, k] := by
  simp [hmul]
theorem numbers_s2 (d C18 : Int) (s m a sd x k : Option D) (p18 : dPow (.int 10) (.int 18) = .ok (.int C18)) : mSet 5 (gBin dSub (gVar 4) (gBin dPow (gC (.int 10)) (gC (.int 18)))) [s, m, a, sd, some (.int d), x, k] = .nx [s, m, a, sd, some (.int d), some (.int (d - C18)), k] := by
  simp [p18]
theorem numbers_s3 (d x : Int) (s m sd k : Option D) (acc : List Int) (hz : acc.length < szL) : mIf (gTest (gBin dLt (gVar 5) (gC (.int 0)))) (mSeq (mApp 2 (gBin dMod (gVar 4) (gC (.int 9967)))) mNil) mNil [s, m, some (.lst (acc.map D.int)), sd, some (.int d), some (.int x), k] =
    .nx [s, m, some (.lst ((if x < 0 then acc ++ [d.fmod 9967] else acc).map D.int)), sd, some (.int d), some (.int x), k] := by
  by_cases h : x < 0 <;> simp [h, hz]
theorem numbers_step (s m : D) (acc : List Int) (seed d : Int) (x k : Option D) (hmul : mulOk seed 40014 = true) (hz : acc.length < szL) (h2 : Drawn acc) (fd : 0 ≤ d.fmod 9967 ∧ d.fmod 9967 < 9967) :
    ∃ acc1, acc1.length ≤ acc.length + 1 ∧ Drawn acc1 ∧ ∀ a1 r1 k1, forL (.one 6) b_numbers_L_1 (((List.range 60).map fun (i : Nat) => D.int i)) [some s, some m, some (.lst (acc1.map D.int)), some (.int ((seed * 40014 + d.fmod 999983 + 29).fmod 2147483563)), some (.int d), some (.int (d - 1000000000000000000)), k] = .nx [some s, some m, some (.lst (List.map D.int a1)), some (.int ((seed * 40014 + d.fmod 999983 + 29).fmod 2147483563)), some (.int d), some (.int r1), k1] →
        b_numbers_L_2 [some s, some m, some (.lst (acc.map D.int)), some (.int seed), some (.int d), x, k] = .nx [some s, some m, some (.lst (List.map D.int a1)), some (.int ((seed * 40014 + d.fmod 999983 + 29).fmod 2147483563)), some (.int d), some (.int r1), k1] := by
  refine ⟨if d - 1000000000000000000 < 0 then acc ++ [d.fmod 9967] else acc, ?_, ?_, fun a1 r1 k1 e1 => ?_⟩
  · split <;> simp
  · split
    · exact h2.snoc fd.1 fd.2
    · exact h2
  · unfold b_numbers_L_2
    rw [seq_nx (numbers_s1 _ _ _ _ _ _ _ hmul), seq_nx (numbers_s2 _ _ _ _ _ _ _ _ pow_ok1), seq_nx (numbers_s3 _ _ _ _ _ _ _ hz)]
    have e2 : mFor (gRange1 (gC (.int 60))) (.one 6) b_numbers_L_1 [some s, some m, some (.lst ((if d - 1000000000000000000 < 0 then acc ++ [d.fmod 9967] else acc).map D.int)), some (.int ((seed * 40014 + d.fmod 999983 + 29).fmod 2147483563)), some (.int d), some (.int (d - 1000000000000000000)), k] = .nx [some s, some m, some (.lst (List.map D.int a1)), some (.int ((seed * 40014 + d.fmod 999983 + 29).fmod 2147483563)), some (.int d), some (.int r1), k1] := by
      show onR (dRange1 (.int 60)) _ _ = _
      rw [range60]
      exact e1
    rw [seq_nx e2]
    rfl
theorem numbers_out (s m : D) : ∀ (ds : List Int) (acc : List Int) (seed : Int) (c x k : Option D), acc.length + 61 * ds.length ≤ 100000 → Drawn acc → 0 ≤ seed → seed < 2147483563 → ∃ acc' seed' c' x' k',
    forL (.one 4) b_numbers_L_2 (ds.map D.int) [some s, some m, some (.lst (acc.map D.int)), some (.int seed), c, x, k] =
      .nx [some s, some m, some (.lst (acc'.map D.int)), some (.int seed'), c', x', k'] ∧ acc'.length ≤ acc.length + 61 * ds.length ∧ Drawn acc' ∧ 0 ≤ seed' ∧ seed' < 2147483563
  | [], acc, seed, c, x, k, h1, h2, h3, h4 => ⟨acc, seed, c, x, k, rfl, by simp, h2, h3, h4⟩
  | d :: ds, acc, seed, c, x, k, h1, h2, h3, h4 => by
    rw [List.length_cons] at h1
    have fs := fmod_pos (a := seed * 40014 + d.fmod 999983 + 29) (b := 2147483563) (by decide)
    have fd := fmod_pos (a := d) (b := 9967) (by decide)
    have hmul : mulOk seed 40014 = true := mulOk_right (by decide) (by decide)
    have hz : acc.length < szL := by exact lt_szL (by omega)
    obtain ⟨acc1, l1, d1, kk⟩ := numbers_step s m acc seed d x k hmul hz h2 fd
    obtain ⟨a1, r1, k1, e1, e2, e3⟩ := numbers_in s m (some (.int d)) (((List.range 60).map fun (i : Nat) => D.int i)) acc1 (d - 1000000000000000000) (some (.int ((seed * 40014 + d.fmod 999983 + 29).fmod 2147483563))) k (by rw [len60]; omega) d1
    rw [len60] at e2
    obtain ⟨a2, s2, c2, x2, k2, f1, f2, f3, f4, f5⟩ := numbers_out s m ds a1 _ (some (.int d)) (some (.int r1)) k1 (by omega) e3 fs.1 fs.2
    refine ⟨a2, s2, c2, x2, k2, ?_, by rw [List.length_cons]; omega, f3, f4, f5⟩
    rw [← f1]
    have b := kk a1 r1 k1 e1
    show (match b_numbers_L_2 [some s, some m, some (.lst (acc.map D.int)), some (.int seed), some (.int d), x, k] with
      | .nx r' => forL (.one 4) b_numbers_L_2 (ds.map D.int) r'
      | o => o) = _
    rw [b]
theorem sIx_hi (n k : Nat) : HT.sIx n n (some (k : Int)) = min k n := HT.sIx_nat n n k
theorem numbers_ok (ns : List Int) (hn : ns.length ≤ 63) (many : Nat) (hm : many ≤ 2000) : ∃ l : List Int, f_numbers_L [.scr ns, .int many] = .ok (.lst (l.map D.int)) ∧ l.length = many ∧ Drawn l := by
  have hc : (cutL ns none (some 63)).length ≤ 63 := by
    unfold cutL
    rw [List.length_take, List.length_drop]
    omega
  obtain ⟨a1, s1, c1, x1, k1, e1, e2, e3, e4, e5⟩ := numbers_out (.scr ns) (.int many) (cutL ns none (some 63)) [] 59 none none none (by simp; omega) (fun d hd => nomatch hd) (by decide) (by decide)
  rw [List.length_nil] at e2
  -- the filling up
  obtain ⟨r', w1, ⟨acc, seed, rfl, w2, w3, w4, w5⟩, w6⟩ := whileL_inv (fun r => ∃ (acc : List Int) (seed : Int), r = [some (.scr ns), some (.int many), some (.lst (acc.map D.int)), some (.int seed), c1, x1, k1] ∧ acc.length ≤ 6000 ∧ Drawn acc ∧ 0 ≤ seed ∧ seed < 2147483629)
    (fun r => match r with
      | [_, _, some (.lst a), _, _, _, _] => many - a.length
      | _ => 0) (tc := gTest (gBin dLt (gCall fLen (gCons (gVar 2) gNil)) (gVar 1))) (mb := b_numbers_L_3) (fun r ⟨acc, seed, e, h1, h2, h3, h4⟩ => by
      subst e
      refine ⟨decide ((acc.length : Int) < many), by simp, fun hb => ?_⟩
      have hb' : acc.length < many := by
        have := of_decide_eq_true hb
        omega
      have m1 : mulOk seed seed = true := mulOk_left (by omega) (by omega)
      have m2 : mulOk 52774 seed = true := mulOk_left (by decide) (by decide)
      have m3 : mulOk 13 (acc.length : Int) = true := mulOk_left (by decide) (by decide)
      have hz : acc.length < szL := by exact lt_szL (by omega)
      have f1 := fmod_pos (a := seed * seed + 52774 * seed + 13 * acc.length + 7) (b := 2147483629) (by decide)
      have f2 := fmod_pos (a := ((seed * seed + 52774 * seed + 13 * acc.length + 7).fmod 2147483629).fdiv 1019) (b := 9967) (by decide)
      refine ⟨[some (.scr ns), some (.int many), some (.lst ((acc ++ [(((seed * seed + 52774 * seed + 13 * acc.length + 7).fmod 2147483629).fdiv 1019).fmod 9967]).map D.int)), some (.int ((seed * seed + 52774 * seed + 13 * acc.length + 7).fmod 2147483629)), c1, x1, k1], ?_, ⟨_, _, rfl, by simp; omega, h2.snoc f2.1 f2.2, f1.1, f1.2⟩, ?_⟩
      · simp [b_numbers_L_3, m1, m2, m3, hz]
      · simp
        omega) WB [some (.scr ns), some (.int many), some (.lst (a1.map D.int)), some (.int s1), c1, x1, k1] ⟨a1, s1, rfl, by omega, e3, e4, by omega⟩ (by
      rw [WB_eq]
      show many - _ < 100000
      omega)
  have w7 : ¬ acc.length < many := by
    simp at w6
    omega
  refine ⟨acc.take many, ?_, by rw [List.length_take]; omega, fun d hd => w3 d (List.mem_of_mem_take hd)⟩
  have hcut : cutL (acc.map D.int) none (some (many : Int)) = (acc.take many).map D.int := by
    unfold cutL
    rw [HT.sIx_none, sIx_hi, List.drop_zero, Nat.sub_zero, List.map_take, List.length_map, Nat.min_eq_left (by omega)]
  have e1' : forL (.one 4) b_numbers_L_2 ((cutL ns none (some 63)).map D.int) [some (.scr ns), some (.int (many : Int)), some (.lst []), some (.int 59), none, none, none] = _ := e1
  simp [f_numbers_L, m_numbers_L, e1', w1, hcut, le_szL (n := 0) (by decide)]

def lowR (r : List Int) : Int := if r = [] then 0 else lmin r
def topR (r : List Int) : Int := if r = [] then 0 else lmax r
theorem fMaxD_ok (r : List Int) : fMaxD (.lst (r.map D.int)) (.int 0) = .ok (.int (topR r)) := by
  dsimp only [fMaxD]
  rw [intsOf_map]
  unfold topR
  dsimp only
  split <;> rfl
theorem low_le {r : List Int} {x : Int} (h : x ∈ r) : lowR r ≤ x ∧ x ≤ topR r := by
  have n : r ≠ [] := fun z => by rw [z] at h; cases h
  unfold lowR topR
  rw [if_neg n, if_neg n]
  exact ⟨lmin_le h, lmax_le h⟩
theorem sorted_ints (ss : List Int) : fSorted [.lst (ss.map D.int)] = .ok (.lst ((sortBy ltI ss).map D.int)) := by
  simp only [fSorted, intsOf_map]

theorem sort_of {a b : List Int} (h : a.Perm b) (hb : Rising b) : sortBy ltI a = b :=
  srt_uniq sto_I ((sortBy_perm a).trans h) (sortBy_srt sto_I a) (hb.imp fun {x y} z => by simp [ltI]; omega)

theorem ne_str (C E : Str) (h1 : (PyData.str C).canLay0 = true := by decide +kernel) (h2 : (PyData.str E).canLay0 = true := by decide +kernel) : dNe (.str C) (.str E) = .ok (.bl (!(C == E))) := by
  have a : shp (.str C) = true := by
    unfold shp SeqAt.shaped
    show ((PyData.str C).canLay0 && _) = true
    rw [h1]
    rfl
  have b : shp (.str E) = true := by
    unfold shp SeqAt.shaped
    show ((PyData.str E).canLay0 && _) = true
    rw [h2]
    rfl
  unfold dNe
  rw [a, b]
  rfl
theorem eq_str (C E : Str) (h1 : (PyData.str C).canLay0 = true := by decide +kernel) (h2 : (PyData.str E).canLay0 = true := by decide +kernel) : dEq (.str C) (.str E) = .ok (.bl (C == E)) := by
  have a : shp (.str C) = true := by
    unfold shp SeqAt.shaped
    show ((PyData.str C).canLay0 && _) = true
    rw [h1]
    rfl
  have b : shp (.str E) = true := by
    unfold shp SeqAt.shaped
    show ((PyData.str E).canLay0 && _) = true
    rw [h2]
    rfl
  unfold dEq
  rw [a, b]
  rfl

theorem ten_loop : ∀ (l : List D) (n : D) (v : Int) (k : Option D), ∃ k', forL (.one 2) b_ten_L_1 l [some n, some (.int v), k] = .nx [some n, some (.int (v * 10 ^ l.length)), k']
  | [], n, v, k => ⟨k, by simp [forL]⟩
  | d :: l, n, v, k => by
    obtain ⟨k', e⟩ := ten_loop l n (v * 10) (some d)
    have m : mulOk v 10 = true := mulOk_right (by decide) (by decide)
    refine ⟨k', ?_⟩
    have b : b_ten_L_1 [some n, some (.int v), some d] = .nx [some n, some (.int (v * 10)), some d] := by simp [b_ten_L_1, m]
    have p : v * 10 * 10 ^ l.length = v * 10 ^ (l.length + 1) := by
      rw [Int.pow_succ, Int.mul_assoc, Int.mul_comm 10]
    rw [p] at e
    show (match b_ten_L_1 [some n, some (.int v), some d] with
      | .nx r' => forL (.one 2) b_ten_L_1 l r'
      | o => o) = _
    rw [b, List.length_cons]
    exact e
theorem ten_ok (n : Nat) (hn : n ≤ 10000) : f_ten_L [.int n] = .ok (.int (10 ^ n)) := by
  have r : dRange1 (.int (n : Int)) = _ := dRange1_nat (by omega)
  obtain ⟨k', e⟩ := ten_loop ((List.range n).map fun (i : Nat) => D.int i) (.int n) 1 none
  rw [List.length_map, List.length_range, Int.one_mul] at e
  simp [f_ten_L, m_ten_L, r, e]

theorem walks_step (l : List Int) (h : Drawn l) (k : Nat) (hk : 2 + 2 * k < l.length) (c50 : Int) (p50 : 1 ≤ c50) (k50 : dPow (.int 10) (.int 50) = .ok (.int c50)) (M : Option D) (ws : List (Int × Int)) (hz : ws.length < 1000) (x : Option D) : ∃ (c n : Int), 1 ≤ c ∧ (-4 ≤ n ∧ n ≤ 4) ∧
    b_walks_L_1 [some (.lst (l.map D.int)), M, some (.lst (ws.map twoD)), some (.int (k : Int)), x] = .nx [some (.lst (l.map D.int)), M, some (.lst ((ws ++ [(c, n)]).map twoD)), some (.int (k : Int)), some (.int c)] := by
  obtain ⟨v0, a0, b0, e0⟩ := drawn_get h (i := 0) (by omega) (j := 0) rfl
  obtain ⟨v1, a1, b1, e1⟩ := drawn_get h (i := 1 + 2 * k) (by omega) (j := 1 + 2 * (k : Int)) (by omega)
  obtain ⟨v2, a2, b2, e2⟩ := drawn_get h (i := 2 + 2 * k) (by omega) (j := 2 + 2 * (k : Int)) (by omega)
  obtain ⟨m, hm, em⟩ := pick3 3 9 70 (v0.fdiv 8)
  have m0 : ¬ m = 0 := by omega
  have f := fmod_pos (a := v1) (b := m) (by omega)
  have f9 := fmod_pos (a := v2) (b := 9) (by decide)
  have m2 : mulOk 2 (k : Int) = true := mulOk_left (by decide) (by decide)
  have lz : ws.length < szL := lt_szL (by omega)
  by_cases c : v1.fmod 17 = 16
  · refine ⟨c50, v2.fmod 9 - 4, p50, by omega, ?_⟩
    rw [← app_pair]
    simp [b_walks_L_1, e0, e1, e2, em, m0, m2, c, k50, lz, -dIdx]
  · refine ⟨1 + v1.fmod m, v2.fmod 9 - 4, by omega, by omega, ?_⟩
    rw [← app_pair]
    simp [b_walks_L_1, e0, e1, e2, em, m0, m2, c, lz, -dIdx]
theorem walks_ok (l : List Int) (h : Drawn l) (many : Nat) (hm : many ≤ 100) (hl : 2 + 2 * many ≤ l.length) : ∃ ws : List (Int × Int), f_walks_L [.lst (l.map D.int), .int many] = .ok (.lst (ws.map twoD)) ∧ ws.length ≤ many ∧ Walks ws ∧ ∀ w ∈ ws, -4 ≤ w.2 ∧ w.2 ≤ 4 := by
  have k50 := dPow_ok (a := 10) (k := 50) (by decide) (by decide)
  have p50 : (1 : Int) ≤ 10 ^ 50 := by decide
  generalize (10 : Int) ^ 50 = c50 at k50 p50
  have k50' : dPow (.int 10) (.int 50) = .ok (.int c50) := k50
  obtain ⟨v0, a0, b0, e0⟩ := drawn_get h (i := 0) (by omega) (j := 0) rfl
  have f := fmod_pos (a := v0) (b := (many : Int) + 1) (by omega)
  have z0 : ¬ (many : Int) + 1 = 0 := by omega
  have rg := dRange1_nat (n := (v0.fmod ((many : Int) + 1)).toNat) (by omega)
  rw [Int.toNat_of_nonneg f.1] at rg
  obtain ⟨r', ew, ws, x, y, hr, hw, hn, hb⟩ := forL_foldI (fun (i : Nat) => D.int i) (fun (u : Unit) _ => u) (fun n _ t => ∃ (ws : List (Int × Int)) (x y : Option D), t = [some (.lst (l.map D.int)), some (.int many), some (.lst (ws.map twoD)), x, y] ∧ Walks ws ∧ ws.length = n ∧ ∀ w ∈ ws, -4 ≤ w.2 ∧ w.2 ≤ 4) (.one 3) b_walks_L_1 (List.range (v0.fmod ((many : Int) + 1)).toNat) 0 ()
    [some (.lst (l.map D.int)), some (.int many), some (.lst []), none, none] ⟨[], none, none, rfl, fun w hw => (nomatch hw), rfl, fun w hw => (nomatch hw)⟩ (fun i k hi hk u t ⟨ws, x, y, e, hw, hn, hb⟩ => by
      subst e
      have hk' := List.mem_range.mp hk
      rw [List.length_range] at hi
      obtain ⟨c, n, c1, nb, st⟩ := walks_step l h k (by omega) c50 p50 k50' (some (.int many)) ws (by omega) y
      refine ⟨[.int k], _, rfl, st, ws ++ [(c, n)], _, _, rfl, fun w hw' => ?_, by simp; omega, fun w hw' => ?_⟩
      · rcases List.mem_append.mp hw' with z | z
        · exact hw w z
        · have : w = (c, n) := by simpa using z
          subst this
          exact c1
      · rcases List.mem_append.mp hw' with z | z
        · exact hb w z
        · have : w = (c, n) := by simpa using z
          subst this
          exact nb)
  subst hr
  refine ⟨ws, ?_, by rw [hn, List.length_range]; omega, hw, hb⟩
  generalize (List.range (v0.fmod ((many : Int) + 1)).toNat).map (fun (i : Nat) => D.int i) = rr at *
  generalize l.map D.int = ll at *
  simp [f_walks_L, m_walks_L, e0, z0, rg, ew, -dIdx]

def tw (C : Str) (i : Int) : D := .tup [.str C, .int i]
/-! ### roads and houses, told plainly -/
def roadD (f e n : D) : D := .obj "Road" [("first", f), ("entries", e), ("now", n)]
def houseD (by_ : List (Key × D)) (dn gn : List D) : D := .obj "House" [("by_name", .dct by_), ("done", .lst dn), ("gone", .lst gn)]
theorem at_first (f e n : D) : oAt "Road" "first" (roadD f e n) = .ok f := rfl
theorem at_entries (f e n : D) : oAt "Road" "entries" (roadD f e n) = .ok e := rfl
theorem at_now (f e n : D) : oAt "Road" "now" (roadD f e n) = .ok n := rfl
theorem at_byname (b : List (Key × D)) (dn gn : List D) : oAt "House" "by_name" (houseD b dn gn) = .ok (.dct b) := rfl
theorem meth_road (m : Str) (f : List D → R D) (a b c : D) (t : R (List D)) (h : List.lookup m [("first", a), ("entries", b), ("now", c)] = none) : dMethR "Road" m f (roadD a b c) t = t >>= fun ds => f (roadD a b c :: ds) := by
  unfold dMethR roadD
  dsimp only
  rw [if_pos rfl, h]
theorem meth_house (m : Str) (f : List D → R D) (b : List (Key × D)) (dn gn : List D) (t : R (List D)) (h : List.lookup m [("by_name", D.dct b), ("done", D.lst dn), ("gone", D.lst gn)] = none) : dMethR "House" m f (houseD b dn gn) t = t >>= fun ds => f (houseD b dn gn :: ds) := by
  unfold dMethR houseD
  dsimp only
  rw [if_pos rfl, h]
theorem meth_behind_one (f : List D → R D) (a b c : D) (t : R (List D)) : dMethR "Road" "behind_one" f (roadD a b c) t = t >>= fun ds => f (roadD a b c :: ds) := meth_road _ _ _ _ _ _ rfl
theorem meth_anew (f : List D → R D) (a b c : D) (t : R (List D)) : dMethR "Road" "anew" f (roadD a b c) t = t >>= fun ds => f (roadD a b c :: ds) := meth_road _ _ _ _ _ _ rfl
theorem meth_hroad (f : List D → R D) (b : List (Key × D)) (dn gn : List D) (t : R (List D)) : dMethR "House" "road" f (houseD b dn gn) t = t >>= fun ds => f (houseD b dn gn :: ds) := meth_house _ _ _ _ _ _ rfl
theorem meth_hrow (f : List D → R D) (b : List (Key × D)) (dn gn : List D) (t : R (List D)) : dMethR "House" "row" f (houseD b dn gn) t = t >>= fun ds => f (houseD b dn gn :: ds) := meth_house _ _ _ _ _ _ rfl
theorem meth_hlog (f : List D → R D) (b : List (Key × D)) (dn gn : List D) (t : R (List D)) : dMethR "House" "log" f (houseD b dn gn) t = t >>= fun ds => f (houseD b dn gn :: ds) := meth_house _ _ _ _ _ _ rfl
theorem make_road (f e n : D) : dMake "Road" f_Road___init__ [f, e, n] = .ok (roadD f e n) := rfl
theorem behind_one_ok (f n n' e : D) (es : List D) (hz : es.length + 1 ≤ szL) (h : f_behind_entry [n, e] = .ok n') : f_Road_behind_one [roadD f (.lst es) n, e] = .ok (roadD f (.lst (es ++ [e])) n') := by
  have s1 : (1 : Nat) ≤ szL := le_szL (by decide)
  simp [f_Road_behind_one, m_Road_behind_one, at_first, at_entries, at_now, h, hz, s1, make_road, -oAt, -dMake]
theorem anew_ok (f n n' e : D) (es : List D) (h : f_gone_over [f, .lst es] = .ok n') : f_Road_anew [roadD f e n, .lst es] = .ok (roadD f (.lst es) n') := by
  simp [f_Road_anew, m_Road_anew, at_first, h, make_road, -oAt, -dMake]
theorem hroad_ok (b : List (Key × D)) (dn gn : List D) (x : Str) (rd : D) (h : valD b (.inr x) = some rd) : f_House_road [houseD b dn gn, .str x] = .ok rd := by
  have k : keyOf (.str x) = some (.inr x) := rfl
  simp [f_House_road, m_House_road, at_byname, k, h, -oAt]
theorem hrow_ok (b : List (Key × D)) (dn gn : List D) (x : Str) (f e : D) (r : List D) (h : valD b (.inr x) = some (roadD f e (.lst r))) : f_House_row [houseD b dn gn, .str x] = .ok (.lst r) := by
  have a := hroad_ok b dn gn x _ h
  simp [f_House_row, m_House_row, meth_hroad, a, at_now, -oAt]
theorem hlog_ok (b : List (Key × D)) (dn gn : List D) (x : Str) (f n : D) (r : List D) (h : valD b (.inr x) = some (roadD f (.lst r) n)) : f_House_log [houseD b dn gn, .str x] = .ok (.lst r) := by
  have a := hroad_ok b dn gn x _ h
  simp [f_House_log, m_House_log, meth_hroad, a, at_entries, -oAt]
theorem noX_of {α : Type} (a : α) : noX (R.ok a) = R.ok a := rfl
theorem become_ok (b : List (Key × D)) (dn gn : List D) (deed : D) (x : Str) (f e n : D) (hd : dn.length < szL) (hb : b.length < szL) : f_House_become [houseD b dn gn, deed, .str x, roadD f e n] = .rt .non [some (houseD (putD b (.inr x) (roadD f e n)) (dn ++ [.tup [deed, .dct b]]) [])] := by
  have k : keyOf (.str x) = some (.inr x) := rfl
  have s0 : (0 : Nat) ≤ szL := le_szL (by decide)
  have s2 : (2 : Nat) ≤ szL := le_szL (by decide)
  simp [f_House_become, m_House_become, houseD, roadD, k, hd, hb, s0, s2, outM, allS, noX_of]

/-! ### names -/
def letters : Str := "abcdefghijklmnopqrstuvwxyz"
def signs (x : Str) : List D := x.cps.toList.map fun c => D.str ⟨#[c]⟩
def nameOk (x : Str) : Bool := decide (1 ≤ x.length ∧ x.length ≤ 8) && x.cps.toList.all fun c => decide (c ∈ letters.cps.toList)
theorem blsOf_map {α : Type} (g : α → Bool) : ∀ l : List α, blsOf (l.map fun x => D.bl (g x)) = some (l.map g)
  | [] => rfl
  | x :: l => by
    rw [List.map_cons, blsOf, blsOf_map g l]
    rfl
theorem is_name_ok (x : Str) (hx : x.length ≤ 1000) : f_is_name [.str x] = .ok (.bl (nameOk x)) := by
  have hz : x.length ≤ szL := le_szL (by omega)
  have cp : ∀ a, gComp (gIter (gVar 0)) (.one 1) [1] gYes (gBin dIn (gVar 1) (gC (.str "abcdefghijklmnopqrstuvwxyz"))) [some (.str x), a] = .ok (.lst (x.cps.toList.map fun c => D.bl (decide (c ∈ letters.cps.toList)))) := fun a => by
    refine gComp_map (l := x.cps.toList) (F := fun c => D.str ⟨#[c]⟩) (G := fun c => D.bl (decide (c ∈ letters.cps.toList))) ?_ fun c _ => ?_
    · have hz' : x.cps.size ≤ szL := hz
      simp [dIter, hz']
    · simp [gTurn, dIn, letters]
  have fa : fAll [.lst (x.cps.toList.map fun c => D.bl (decide (c ∈ letters.cps.toList)))] = .ok (.bl (x.cps.toList.all fun c => decide (c ∈ letters.cps.toList))) := by
    unfold fAll
    dsimp only
    rw [blsOf_map]
    dsimp only
    rw [List.all_map]
    rfl
  by_cases c1 : (1 : Int) ≤ x.length
  · by_cases c2 : (x.length : Int) ≤ 8
    · have e : nameOk x = x.cps.toList.all fun c => decide (c ∈ letters.cps.toList) := by
        unfold nameOk
        rw [decide_eq_true (show 1 ≤ x.length ∧ x.length ≤ 8 by omega), Bool.true_and]
      rw [e]
      generalize (x.cps.toList.map fun c => D.bl (decide (c ∈ letters.cps.toList))) = L at cp fa
      generalize (x.cps.toList.all fun c => decide (c ∈ letters.cps.toList)) = V at fa ⊢
      simp [f_is_name, m_is_name, hz, c1, c2, cp, fa, -fAll]
    · have e : nameOk x = false := by
        unfold nameOk
        rw [decide_eq_false (show ¬ (1 ≤ x.length ∧ x.length ≤ 8) by omega), Bool.false_and]
      rw [e]
      simp [f_is_name, m_is_name, hz, c1, c2]
  · have e : nameOk x = false := by
      unfold nameOk
      rw [decide_eq_false (show ¬ (1 ≤ x.length ∧ x.length ≤ 8) by omega), Bool.false_and]
    rw [e]
    simp [f_is_name, m_is_name, hz, c1]
/-! ### the house's deeds, where nothing is refused -/
def entW (c n : Int) : D := .tup [.str "walk", .int c, .int n]
def entP (p : Int) : D := .tup [.str "put", .int p]
theorem mMeth_h (b : List (Key × D)) (dn gn : List D) (f : List D → O) (t : Sl → R (List D)) (rest : Sl) : mMeth "House" 0 f t (some (houseD b dn gn) :: rest) = (match t (some (houseD b dn gn) :: rest) with
    | .ok ds => (match f (houseD b dn gn :: ds) with
      | .rt d [some d'] => .rt d (some d' :: rest)
      | .exc x [some d'] => .exc x (some d' :: rest)
      | _ => .stuck)
    | .exc x => .exc x (some (houseD b dn gn) :: rest)
    | .stuck => .stuck) := rfl
theorem gFld_by (b : List (Key × D)) (dn gn : List D) (rest : Sl) : gFld "House" 0 0 (some (houseD b dn gn) :: rest) = .ok (.dct b) := rfl
theorem walk_ok (b : List (Key × D)) (dn gn : List D) (x : Str) (c k : Int) (hc : 1 ≤ c) (f n n' : D) (es : List D) (hx : valD b (.inr x) = some (roadD f (.lst es) n)) (he : f_behind_entry [n, entW c k] = .ok n') (hz : es.length + 1 ≤ szL) (hd : dn.length < szL) (hb : b.length < szL) :
    f_House_walk [houseD b dn gn, .str x, .int c, .int k] = .rt .non [some (houseD (putD b (.inr x) (roadD f (.lst (es ++ [entW c k])) n')) (dn ++ [.tup [.tup [.str "walk", .str x, .int c, .int k], .dct b]]) [])] := by
  have a1 := hroad_ok b dn gn x _ hx
  have a2 := look_creel_ok c hc
  have a3 := behind_one_ok f n n' (entW c k) es hz he
  have a4 := become_ok b dn gn (.tup [.str "walk", .str x, .int c, .int k]) x f (.lst (es ++ [entW c k])) n' hd hb
  have s3 : (3 : Nat) ≤ szL := le_szL (by decide)
  have s4 : (4 : Nat) ≤ szL := le_szL (by decide)
  unfold entW at *
  simp [f_House_walk, m_House_walk, meth_hroad, meth_behind_one, mMeth_h, a1, a2, a3, a4, s3, s4, outM, allS, -mMeth, -oAt]
theorem put_ok (b : List (Key × D)) (dn gn : List D) (x : Str) (p : Int) (f n n' : D) (es : List D) (hx : valD b (.inr x) = some (roadD f (.lst es) n)) (he : f_behind_entry [n, entP p] = .ok n') (hz : es.length + 1 ≤ szL) (hd : dn.length < szL) (hb : b.length < szL) :
    f_House_put [houseD b dn gn, .str x, .int p] = .rt .non [some (houseD (putD b (.inr x) (roadD f (.lst (es ++ [entP p])) n')) (dn ++ [.tup [.tup [.str "put", .str x, .int p], .dct b]]) [])] := by
  have a1 := hroad_ok b dn gn x _ hx
  have a3 := behind_one_ok f n n' (entP p) es hz he
  have a4 := become_ok b dn gn (.tup [.str "put", .str x, .int p]) x f (.lst (es ++ [entP p])) n' hd hb
  have s2 : (2 : Nat) ≤ szL := le_szL (by decide)
  have s3 : (3 : Nat) ≤ szL := le_szL (by decide)
  unfold entP at *
  simp [f_House_put, m_House_put, meth_hroad, meth_behind_one, mMeth_h, a1, a3, a4, s2, s3, outM, allS, -mMeth, -oAt]
theorem build_ok (b : List (Key × D)) (dn gn : List D) (x : Str) (hn : nameOk x = true) (hl : x.length ≤ 1000) (r : List Int) (hr : Rising r) (hr60 : r.length ≤ 60) (hx : valD b (.inr x) = none) (hd : dn.length < szL) (hb : b.length < 8) :
    f_House_build [houseD b dn gn, .str x, .lst (r.map D.int)] = .rt .non [some (houseD (putD b (.inr x) (roadD (.lst (r.map D.int)) (.lst []) (.lst (r.map D.int)))) (dn ++ [.tup [.tup [.str "build", .str x, .tup (r.map D.int)], .dct b]]) [])] := by
  have a1 := is_name_ok x hl
  rw [hn] at a1
  have a2 := look_row_ok r hr hr60
  have k : keyOf (.str x) = some (.inr x) := rfl
  have a4 := become_ok b dn gn (.tup [.str "build", .str x, .tup (r.map D.int)]) x (.lst (r.map D.int)) (.lst []) (.lst (r.map D.int)) hd (lt_szL (by omega))
  have s0 : (0 : Nat) ≤ szL := le_szL (by decide)
  have s3 : (3 : Nat) ≤ szL := le_szL (by decide)
  have fl : fLenD [.dct b] = .ok (.int (b.length : Nat)) := rfl
  have nb : ¬ (8 : Int) ≤ b.length := by omega
  generalize r.map D.int = rr at *
  simp [f_House_build, m_House_build, gFld_by, k, hx, a1, a2, a4, s0, s3, fl, nb, make_road, mMeth_h, outM, allS, -mMeth, -oAt, -gFld, -fLenD, -dMake]
theorem late_ok (b : List (Key × D)) (dn gn : List D) (x : Str) (a : Nat) (c k : Int) (hc : 1 ≤ c) (f n n' : D) (es : List D) (ha : a ≤ es.length) (hx : valD b (.inr x) = some (roadD f (.lst es) n)) (he : f_gone_over [f, .lst (es.take a ++ [entW c k] ++ es.drop a)] = .ok n') (hz : es.length + 1 ≤ szL) (hd : dn.length < szL) (hb : b.length < szL) :
    f_House_late [houseD b dn gn, .str x, .int (a : Nat), .int c, .int k] = .rt .non [some (houseD (putD b (.inr x) (roadD f (.lst (es.take a ++ [entW c k] ++ es.drop a)) n')) (dn ++ [.tup [.tup [.str "late", .str x, .int (a : Nat), .int c, .int k], .dct b]]) [])] := by
  have a1 := hroad_ok b dn gn x _ hx
  have a2 := look_creel_ok c hc
  have a3 := anew_ok f n n' (.lst es) (es.take a ++ [entW c k] ++ es.drop a) he
  have a4 := become_ok b dn gn (.tup [.str "late", .str x, .int (a : Nat), .int c, .int k]) x f (.lst (es.take a ++ [entW c k] ++ es.drop a)) n' hd hb
  have s1 : (1 : Nat) ≤ szL := le_szL (by decide)
  have s3 : (3 : Nat) ≤ szL := le_szL (by decide)
  have s5 : (5 : Nat) ≤ szL := le_szL (by decide)
  have cT : cutL es none (some (a : Int)) = es.take a := cutL_to (k := a) rfl
  have cF : cutL es (some (a : Int)) none = es.drop a := cutL_from (k := a) ha
  have l1 : (es.take a).length + 1 ≤ szL := by rw [List.length_take]; omega
  have l2 : (es.take a ++ [entW c k]).length + (es.drop a).length ≤ szL := by rw [List.length_append, List.length_take, List.length_drop, List.length_singleton]; omega
  have na : ¬ (a : Int) < 0 := by omega
  have nb : ¬ (es.length : Int) < (a : Int) := by omega
  have A1 : dAdd (.lst (es.take a)) (.lst [entW c k]) = .ok (.lst (es.take a ++ [entW c k])) := by
    show (if (es.take a).length + 1 ≤ szL then _ else _) = _
    rw [if_pos l1]
  have A2 : dAdd (.lst (es.take a ++ [entW c k])) (.lst (es.drop a)) = .ok (.lst (es.take a ++ [entW c k] ++ es.drop a)) := by
    show (if (es.take a ++ [entW c k]).length + (es.drop a).length ≤ szL then _ else _) = _
    rw [if_pos l2]
  have fl : fLen [.lst es] = .ok (.int (es.length : Nat)) := rfl
  generalize es.take a ++ [entW c k] ++ es.drop a = q3 at *
  generalize es.take a ++ [entW c k] = q2 at *
  generalize es.take a = q1 at *
  generalize es.drop a = q0 at *
  generalize ((a : Nat) : Int) = ai at *
  generalize ((es.length : Nat) : Int) = li at *
  unfold entW at *
  simp [f_House_late, m_House_late, meth_hroad, meth_anew, mMeth_h, at_entries, a1, a2, a3, a4, s1, s3, s5, cT, cF, na, nb, A1, A2, fl, outM, allS, -mMeth, -oAt, -dAdd, -fLen]
theorem strike_ok (b : List (Key × D)) (dn gn : List D) (x : Str) (a : Nat) (c k : Int) (f n n' : D) (es : List D) (ha : es[a]? = some (entW c k)) (hx : valD b (.inr x) = some (roadD f (.lst es) n)) (he : f_gone_over [f, .lst (es.take a ++ es.drop (a + 1))] = .ok n') (hz : es.length + 1 ≤ szL) (hd : dn.length < szL) (hb : b.length < szL) :
    f_House_strike [houseD b dn gn, .str x, .int (a : Nat)] = .rt .non [some (houseD (putD b (.inr x) (roadD f (.lst (es.take a ++ es.drop (a + 1))) n')) (dn ++ [.tup [.tup [.str "strike", .str x, .int (a : Nat)], .dct b]]) [])] := by
  have hlt : a < es.length := (List.getElem?_eq_some_iff.mp ha).1
  have a1 := hroad_ok b dn gn x _ hx
  have a3 := anew_ok f n n' (.lst es) (es.take a ++ es.drop (a + 1)) he
  have a4 := become_ok b dn gn (.tup [.str "strike", .str x, .int (a : Nat)]) x f (.lst (es.take a ++ es.drop (a + 1))) n' hd hb
  have s3 : (3 : Nat) ≤ szL := le_szL (by decide)
  have cT : cutL es none (some (a : Int)) = es.take a := cutL_to (k := a) rfl
  have cF : cutL es (some ((a : Int) + 1)) none = es.drop (a + 1) := cutL_from (k := a + 1) (by omega) (by omega)
  have l2 : (es.take a).length + (es.drop (a + 1)).length ≤ szL := by rw [List.length_take, List.length_drop]; omega
  have na : ¬ (a : Int) < 0 := by omega
  have nb : ¬ (es.length : Int) ≤ (a : Int) := by omega
  have A2 : dAdd (.lst (es.take a)) (.lst (es.drop (a + 1))) = .ok (.lst (es.take a ++ es.drop (a + 1))) := by
    show (if (es.take a).length + (es.drop (a + 1)).length ≤ szL then _ else _) = _
    rw [if_pos l2]
  have A3 : dAdd (.int (a : Int)) (.int 1) = .ok (.int ((a : Int) + 1)) := rfl
  have fl : fLen [.lst es] = .ok (.int (es.length : Nat)) := rfl
  have i1 : dIdx (.lst es) (.int (a : Int)) = .ok (entW c k) := dIdx_list ha
  have i2 : dIdx (entW c k) (.int 0) = .ok (.str "walk") := rfl
  have nq : dNe (.str "walk") (.str "walk") = .ok (.bl false) := by
    rw [ne_str "walk" "walk"]
    simp
  generalize es.take a ++ es.drop (a + 1) = q3 at *
  generalize es.take a = q1 at *
  generalize es.drop (a + 1) = q0 at *
  generalize ((a : Nat) : Int) = ai at *
  generalize ((es.length : Nat) : Int) = li at *
  generalize entW c k = en at *
  simp [f_House_strike, m_House_strike, meth_hroad, meth_anew, mMeth_h, at_entries, a1, a3, a4, s3, cT, cF, na, nb, A2, A3, fl, i1, i2, nq, outM, allS, -mMeth, -oAt, -dAdd, -fLen, -dIdx]
/-! ### a log gone over -/
theorem behind_walk (r : List Int) (hr : Rising r) (hl : r.length ≤ 60) (c k : Int) (hc : 1 ≤ c) : f_behind_entry [.lst (r.map D.int), entW c k] = .ok (.lst ((farR r [(c, k)]).map D.int)) := by
  have a := far_ok r [(c, k)] hr hl (fun w hw => by rw [List.mem_singleton.mp hw]; exact hc)
  have e : [(c, k)].map twoD = [.tup [.int c, .int k]] := rfl
  rw [e] at a
  have i0 : dIdx (entW c k) (.int 0) = .ok (.str "walk") := rfl
  have i1 : dIdx (entW c k) (.int 1) = .ok (.int c) := rfl
  have i2 : dIdx (entW c k) (.int 2) = .ok (.int k) := rfl
  have q : dEq (.str "walk") (.str "walk") = .ok (.bl true) := by rw [eq_str "walk" "walk"]; simp
  have s1 : (1 : Nat) ≤ szL := le_szL (by decide)
  have s2 : (2 : Nat) ≤ szL := le_szL (by decide)
  generalize r.map D.int = rr at *
  generalize entW c k = en at *
  simp [f_behind_entry, m_behind_entry, i0, i1, i2, q, s1, s2, a, -dIdx]
theorem behind_put (r : List Int) (p : Int) (hr : Rising (r ++ [p])) (hl : r.length < 60) : f_behind_entry [.lst (r.map D.int), entP p] = .ok (.lst ((r ++ [p]).map D.int)) := by
  have i0 : dIdx (entP p) (.int 0) = .ok (.str "put") := rfl
  have i1 : dIdx (entP p) (.int 1) = .ok (.int p) := rfl
  have q1 : dEq (.str "put") (.str "walk") = .ok (.bl false) := by rw [eq_str "put" "walk"]; exact congrArg _ (congrArg _ (by decide +kernel))
  have q2 : dEq (.str "put") (.str "put") = .ok (.bl true) := by rw [eq_str "put" "put"]; simp
  have ni : ¬ p ∈ r := fun h => by
    have := (List.pairwise_append.mp hr).2.2 p h p (by simp)
    omega
  have ii := in_ints r p (by omega)
  rw [decide_eq_false ni] at ii
  have s1 : (1 : Nat) ≤ szL := le_szL (by decide)
  have so := sorted_ints (r ++ [p])
  rw [sort_of (List.Perm.refl _) hr, List.map_append, List.map_singleton] at so
  have lz : r.length + 1 ≤ szL := le_szL (by omega)
  have nb : ¬ (60 : Int) ≤ r.length := by omega
  have fl : fLen [.lst (r.map D.int)] = .ok (.int (r.length : Nat)) := by simp [fLen]
  have A : dAdd (.lst (r.map D.int)) (.lst [.int p]) = .ok (.lst (r.map D.int ++ [.int p])) := by
    show (if (r.map D.int).length + 1 ≤ szL then _ else _) = _
    rw [if_pos (by rw [List.length_map]; exact lz)]
  rw [List.map_append, List.map_singleton]
  generalize r.map D.int = rr at *
  generalize entP p = en at *
  simp [f_behind_entry, m_behind_entry, f_put_in, m_put_in, i0, i1, q1, q2, ii, so, s1, fl, nb, A, -dIdx, -dAdd, -fLen]
theorem gone_loop (es : List D) (hz : es.length ≤ 1000) (rows : Nat → List Int) (h : ∀ k e, es[k]? = some e → f_behind_entry [.lst ((rows k).map D.int), e] = .ok (.lst ((rows (k + 1)).map D.int))) : f_gone_over [.lst ((rows 0).map D.int), .lst es] = .ok (.lst ((rows es.length).map D.int)) := by
  have key : ∀ (j k : Nat) (x : Option D), k + j = es.length → ∃ y, forL (.one 2) b_gone_over_1 ((List.range' k j).map fun (i : Nat) => D.int i) [some (.lst ((rows k).map D.int)), some (.lst es), x] = .nx [some (.lst ((rows es.length).map D.int)), some (.lst es), y] := by
    intro j
    induction j with
    | zero =>
      intro k x hk
      have : k = es.length := by omega
      subst this
      exact ⟨x, rfl⟩
    | succ j ih =>
      intro k x hk
      obtain ⟨y, e⟩ := ih (k + 1) (some (.int (k : Nat))) (by omega)
      refine ⟨y, ?_⟩
      rw [List.range'_succ, List.map_cons, ← e]
      obtain ⟨d, hd⟩ : ∃ d, es[k]? = some d := ⟨es[k]'(by omega), by simp⟩
      have i1 : dIdx (.lst es) (.int (k : Nat)) = .ok d := dIdx_list hd
      have b1 := h k d hd
      refine forL_step (xs := [.int (k : Nat)]) rfl ?_
      generalize (rows k).map D.int = r1 at *
      generalize (rows (k + 1)).map D.int = r2 at *
      simp [b_gone_over_1, i1, b1, -dIdx]
  obtain ⟨y, e⟩ := key es.length 0 none (by omega)
  have rg := dRange1_nat (n := es.length) (by omega)
  rw [range_split] at rg
  have fl : fLen [.lst es] = .ok (.int (es.length : Nat)) := rfl
  generalize (List.range' 0 es.length).map (fun (i : Nat) => D.int i) = rr at *
  generalize (rows 0).map D.int = r1 at *
  generalize (rows es.length).map D.int = r2 at *
  simp [f_gone_over, m_gone_over, fl, rg, e, -fLen]

/-! ### law k43 -/
theorem forL_enum {α : Type} (F : α → D) (R : Nat → Sl → Prop) (t : Tg) (mb : Sl → O) : ∀ (l : List α) (n : Nat) (r : Sl), R n r → (∀ i x, l[i]? = some x → ∀ r, R (n + i) r → ∃ xs r', t.un (.tup [.int ((n + i : Nat) : Int), F x]) = .ok xs ∧ mb (setD r t.is xs) = .nx r' ∧ R (n + i + 1) r') →
    ∃ r', forL t mb (((l.map F).zipIdx n).map fun p => D.tup [.int (p.2 : Nat), p.1]) r = .nx r' ∧ R (n + l.length) r'
  | [], n, r, h, _ => ⟨r, rfl, h⟩
  | x :: l, n, r, h, k => by
    obtain ⟨xs, r1, e1, e2, h1⟩ := k 0 x rfl r h
    obtain ⟨r', e3, h3⟩ := forL_enum F R t mb l (n + 1) r1 h1 fun i y hy r q => by
      have e : n + 1 + i = n + (i + 1) := by omega
      rw [e] at q ⊢
      exact k (i + 1) y (by simpa using hy) r q
    refine ⟨r', ?_, by rw [List.length_cons, show n + (l.length + 1) = n + 1 + l.length by omega]; exact h3⟩
    rw [← e3, List.map_cons, List.zipIdx_cons, List.map_cons]
    exact forL_step e1 e2
theorem forL_nat (R : Nat → Sl → Prop) (t : Tg) (mb : Sl → O) : ∀ (j n : Nat) (r : Sl), R n r → (∀ i, i < j → ∀ r, R (n + i) r → ∃ xs r', t.un (.int ((n + i : Nat) : Int)) = .ok xs ∧ mb (setD r t.is xs) = .nx r' ∧ R (n + i + 1) r') →
    ∃ r', forL t mb ((List.range' n j).map fun (i : Nat) => D.int i) r = .nx r' ∧ R (n + j) r'
  | 0, n, r, h, _ => ⟨r, rfl, h⟩
  | j + 1, n, r, h, k => by
    obtain ⟨xs, r1, e1, e2, h1⟩ := k 0 (by omega) r h
    obtain ⟨r', e3, h3⟩ := forL_nat R t mb j (n + 1) r1 h1 fun i hi r q => by
      have e : n + 1 + i = n + (i + 1) := by omega
      rw [e] at q ⊢
      exact k (i + 1) (by omega) r q
    refine ⟨r', ?_, by rw [show n + (j + 1) = n + 1 + j by omega]; exact h3⟩
    rw [← e3, List.range'_succ, List.map_cons]
    exact forL_step e1 e2
theorem farR_congr {r : List Int} {us vs : List (Int × Int)} (h : ∀ s, byw us s = byw vs s) : farR r us = farR r vs := by
  have e : byw us = byw vs := funext h
  unfold farR addL
  rw [e]
theorem sum_permI {a b : List Int} (h : a.Perm b) : a.sum = b.sum := by
  induction h with
  | nil => rfl
  | cons x _ ih => rw [List.sum_cons, List.sum_cons, ih]
  | swap x y l => rw [List.sum_cons, List.sum_cons, List.sum_cons, List.sum_cons]; omega
  | trans _ _ h1 h2 => exact h1.trans h2
theorem byw_perm {us vs : List (Int × Int)} (h : us.Perm vs) (s : Int) : byw us s = byw vs s := by
  unfold byw
  exact sum_permI (h.map _)
theorem farR_perm {r : List Int} {us vs : List (Int × Int)} (h : us.Perm vs) : farR r us = farR r vs := farR_congr fun s => byw_perm h s
theorem farR_nil {r : List Int} (hr : Rising r) : farR r [] = r := by
  refine farR_eq hr ?_
  have : addL (heap r) [] = heap r := by
    unfold addL
    simp [byw_nil]
  rw [this]
theorem farR_snoc {r : List Int} (us : List (Int × Int)) (w : Int × Int) : farR (farR r us) [w] = farR r (us ++ [w]) := far_far r us [w] (us ++ [w]) fun s => (byw_app us [w] s).symm
def entV (w : Int × Int) : D := entW w.1 w.2
/-- a log of puttings and walks gone over -/
theorem gone_full (r P : List Int) (hP : P.length ≤ 1) (hr : Rising (r ++ P)) (hl : r.length ≤ 50) (WL : List (Int × Int)) (hW : Walks WL) (hz : WL.length ≤ 900) : f_gone_over [.lst (r.map D.int), .lst (P.map entP ++ WL.map entV)] = .ok (.lst ((farR (r ++ P) WL).map D.int)) := by
  have h0 : Rising r := (List.pairwise_append.mp hr).1
  have key := gone_loop (P.map entP ++ WL.map entV) (by rw [List.length_append, List.length_map, List.length_map]; omega) (fun k => if k < P.length then r else farR (r ++ P) (WL.take (k - P.length))) fun k e hk => by
    by_cases c : k < P.length
    · obtain ⟨p, rfl⟩ : ∃ p, P = [p] := by
        match P, hP, c with
        | [p], _, _ => exact ⟨p, rfl⟩
      have k0 : k = 0 := by simp at c; exact c
      subst k0
      have e0 : entP p = e := by simpa using hk
      subst e0
      rw [if_pos c, if_neg (show ¬ 0 + 1 < [p].length by simp), behind_put r p hr (by omega)]
      show _ = R.ok (D.lst (List.map D.int (farR (r ++ [p]) [])))
      rw [farR_nil hr]
    · rw [List.getElem?_append_right (by rw [List.length_map]; omega), List.length_map, List.getElem?_map] at hk
      cases q : WL[k - P.length]? with
      | none => rw [q] at hk; cases hk
      | some w =>
        rw [q] at hk
        have e0 : entV w = e := by simpa using hk
        subst e0
        have hw := hW w (List.mem_of_getElem? q)
        have lR : (farR (r ++ P) (WL.take (k - P.length))).length ≤ 60 := by rw [farR_len, List.length_append]; omega
        have z := behind_walk (farR (r ++ P) (WL.take (k - P.length))) (farR_rising _ _) lR w.1 w.2 hw
        have e1 : (if k < P.length then r else farR (r ++ P) (WL.take (k - P.length))) = farR (r ++ P) (WL.take (k - P.length)) := if_neg c
        have e2 : (if k + 1 < P.length then r else farR (r ++ P) (WL.take (k + 1 - P.length))) = farR (farR (r ++ P) (WL.take (k - P.length))) [(w.1, w.2)] := by
          rw [if_neg (by omega), farR_snoc, show k + 1 - P.length = k - P.length + 1 by omega, List.take_add_one, q]
          rfl
        show f_behind_entry [.lst ((if k < P.length then r else _).map D.int), entV w] = .ok (.lst ((if k + 1 < P.length then r else _).map D.int))
        rw [e1, e2]
        exact z
  have e0 : (if 0 < P.length then r else farR (r ++ P) (WL.take (0 - P.length))) = r := by
    by_cases c : 0 < P.length
    · rw [if_pos c]
    · rw [if_neg c]
      have : P = [] := List.length_eq_zero_iff.mp (by omega)
      subst this
      simp
      exact farR_nil h0
  have e1 : (if (P.map entP ++ WL.map entV).length < P.length then r else farR (r ++ P) (WL.take ((P.map entP ++ WL.map entV).length - P.length))) = farR (r ++ P) WL := by
    rw [List.length_append, List.length_map, List.length_map, if_neg (by omega), List.take_of_length_le (by omega)]
  rw [e0, e1] at key
  exact key
def byD (A B : D) : List (Key × D) := [(.inr "late", A), (.inr "now", B)]
theorem by_late (A B : D) : valD (byD A B) (.inr "late") = some A := rfl
theorem by_now (A B : D) : valD (byD A B) (.inr "now") = some B := rfl
theorem put_late (A B A' : D) : putD (byD A B) (.inr "late") A' = byD A' B := rfl
theorem put_now (A B B' : D) : putD (byD A B) (.inr "now") B' = byD A B' := rfl
theorem by_len (A B : D) : (byD A B).length = 2 := rfl
theorem mMeth_at {i : Nat} {r : Sl} {b : List (Key × D)} {dn gn : List D} {f : List D → O} {t : Sl → R (List D)} {ds : List D} {d d' : D} (h : r[i]? = some (some (houseD b dn gn))) (ht : t r = .ok ds) (hf : f (houseD b dn gn :: ds) = .rt d [some d']) : mMeth "House" i f t r = .rt d (r.set i (some d')) := by
  unfold mMeth
  rw [h]
  unfold houseD at hf ⊢
  dsimp only
  rw [if_pos rfl, ht]
  dsimp only
  rw [hf]
theorem exprX_at {i : Nat} {r : Sl} {b : List (Key × D)} {dn gn : List D} {f : List D → O} {t : Sl → R (List D)} {ds : List D} {d d' : D} (h : r[i]? = some (some (houseD b dn gn))) (ht : t r = .ok ds) (hf : f (houseD b dn gn :: ds) = .rt d [some d']) : mExprX (mMeth "House" i f t) r = .nx (r.set i (some d')) := by
  unfold mExprX
  rw [mMeth_at h ht hf]
  rfl
def hs (r P : List Int) (WL W2 : List (Int × Int)) (dn : List D) : D :=
  houseD (byD (roadD (.lst (r.map D.int)) (.lst (P.map entP ++ WL.map entV)) (.lst ((farR (r ++ P) WL).map D.int))) (roadD (.lst (r.map D.int)) (.lst (P.map entP ++ W2.map entV)) (.lst ((farR (r ++ P) WL).map D.int)))) dn []
theorem take_pre {α : Type} {p q : List α} (a : Nat) : (p ++ q).take (p.length + a) = p ++ q.take a := by
  rw [List.take_append, List.take_of_length_le (by omega), Nat.add_sub_cancel_left]
theorem drop_pre {α : Type} {p q : List α} (a : Nat) : (p ++ q).drop (p.length + a) = q.drop a := by
  rw [List.drop_append, List.drop_eq_nil_of_le (by omega), Nat.add_sub_cancel_left, List.nil_append]
theorem rows_same (r P : List Int) (hrl : (r ++ P).length ≤ 60) (WL W2 : List (Int × Int)) (dn : List D) (S L R x4 x5 x6 x7 x8 x9 x10 x11 x12 : Option D) : (gTest (gBin dNe (gMethR "House" "row" f_House_row (gVar 3) (VL.gCons (gC (.str "late")) VL.gNil)) (gMethR "House" "row" f_House_row (gVar 3) (VL.gCons (gC (.str "now")) VL.gNil)))) [S, L, R, some (hs r P WL W2 dn), x4, x5, x6, x7, x8, x9, x10, x11, x12] = .ok false := by
  have a := hrow_ok (byD (roadD (.lst (r.map D.int)) (.lst (P.map entP ++ WL.map entV)) (.lst ((farR (r ++ P) WL).map D.int))) (roadD (.lst (r.map D.int)) (.lst (P.map entP ++ W2.map entV)) (.lst ((farR (r ++ P) WL).map D.int)))) dn [] "late" _ _ _ (by_late _ _)
  have b := hrow_ok (byD (roadD (.lst (r.map D.int)) (.lst (P.map entP ++ WL.map entV)) (.lst ((farR (r ++ P) WL).map D.int))) (roadD (.lst (r.map D.int)) (.lst (P.map entP ++ W2.map entV)) (.lst ((farR (r ++ P) WL).map D.int)))) dn [] "now" _ _ _ (by_now _ _)
  have n := ne_ints (farR (r ++ P) WL) (by rw [farR_len]; omega)
  unfold hs
  generalize byD _ _ = bb at *
  generalize (farR (r ++ P) WL).map D.int = q at *
  simp [meth_hrow, a, b, n]
theorem turn43a (l : List Int) (d1 : Drawn l) (hl : l.length = 80) (S R x4 X6 x7 x8 x11 x12 : Option D) (r P : List Int) (hP : P.length ≤ 1) (hr : Rising (r ++ P)) (hrl : r.length ≤ 50) (k : Nat) (hk : k < 9) (w : Int × Int) (w1 : 1 ≤ w.1) (WL W2 : List (Int × Int)) (eb : ∀ s, byw WL s = byw W2 s) (hWL : Walks WL) (hW2 : Walks W2) (l1 : WL.length = k) (l2 : W2.length = k) (dn : List D) (hd : dn.length ≤ 100) :
    ∃ WL' dn', (∀ s, byw WL' s = byw (W2 ++ [w]) s) ∧ Walks WL' ∧ WL'.length = k + 1 ∧ dn'.length ≤ dn.length + 2 ∧ b_law_2 [S, some (.lst (l.map D.int)), R, some (hs r P WL W2 dn), x4, some (.int (P.length : Nat)), X6, x7, x8, some (.int (k : Nat)), some (twoD w), x11, x12] =
      .nx [S, some (.lst (l.map D.int)), R, some (hs r P WL' (W2 ++ [w]) dn'), x4, some (.int (P.length : Nat)), X6, x7, x8, some (.int (k : Nat)), some (twoD w), x11, x12] := by
  obtain ⟨v, p, q, g⟩ := drawn_get d1 (i := 70 + k) (by omega) (j := 70 + (k : Int)) (by omega)
  have f := fmod_pos (a := v) (b := (k : Int) + 1) (by omega)
  obtain ⟨a, ea, ha⟩ : ∃ a : Nat, v.fmod ((k : Int) + 1) = (a : Int) ∧ a ≤ k := ⟨(v.fmod ((k : Int) + 1)).toNat, by rw [Int.toNat_of_nonneg f.1], by omega⟩
  have z0 : ¬ (k : Int) + 1 = 0 := by omega
  have lR : (r ++ P).length ≤ 60 := by rw [List.length_append]; omega
  obtain ⟨WL', eW⟩ : ∃ WL', WL' = WL.take a ++ [w] ++ WL.drop a := ⟨_, rfl⟩
  have pm : WL'.Perm (WL ++ [w]) := by
    rw [eW, List.append_assoc]
    refine (List.perm_append_comm_assoc _ _ _).trans ?_
    rw [List.take_append_drop]
    exact List.perm_append_comm
  have hW' : Walks WL' := fun x hx => by
    rcases List.mem_append.mp (pm.mem_iff.mp hx) with z | z
    · exact hWL x z
    · rw [List.mem_singleton.mp z]; exact w1
  have lW : WL'.length = k + 1 := by rw [pm.length_eq, List.length_append, l1]; rfl
  have eb' : ∀ s, byw WL' s = byw (W2 ++ [w]) s := fun s => by rw [byw_perm pm, byw_app, byw_app, eb]
  have go := gone_full r P hP hr hrl WL' hW' (by omega)
  have es1 : (P.map entP ++ WL.map entV).take (P.length + a) ++ [entW w.1 w.2] ++ (P.map entP ++ WL.map entV).drop (P.length + a) = P.map entP ++ WL'.map entV := by
    have t1 := take_pre (p := P.map entP) (q := WL.map entV) a
    have t2 := drop_pre (p := P.map entP) (q := WL.map entV) a
    rw [List.length_map] at t1 t2
    rw [t1, t2, eW, ← List.map_take, ← List.map_drop]
    simp [entV]
  obtain ⟨A, hA⟩ : ∃ A, A = roadD (.lst (r.map D.int)) (.lst (P.map entP ++ WL.map entV)) (.lst ((farR (r ++ P) WL).map D.int)) := ⟨_, rfl⟩
  obtain ⟨B, hB⟩ : ∃ B, B = roadD (.lst (r.map D.int)) (.lst (P.map entP ++ W2.map entV)) (.lst ((farR (r ++ P) WL).map D.int)) := ⟨_, rfl⟩
  have la := late_ok (byD A B) dn [] "late" (P.length + a) w.1 w.2 w1 (.lst (r.map D.int)) (.lst ((farR (r ++ P) WL).map D.int)) (.lst ((farR (r ++ P) WL').map D.int)) (P.map entP ++ WL.map entV) (by rw [List.length_append, List.length_map, List.length_map]; omega) (by rw [by_late, hA]) (by rw [es1]; exact go) (le_szL (by rw [List.length_append, List.length_map, List.length_map]; omega)) (lt_szL (by omega)) (lt_szL (by rw [by_len]; omega))
  rw [es1, put_late] at la
  obtain ⟨A', hA'⟩ : ∃ A', A' = roadD (.lst (r.map D.int)) (.lst (P.map entP ++ WL'.map entV)) (.lst ((farR (r ++ P) WL').map D.int)) := ⟨_, rfl⟩
  rw [← hA'] at la
  obtain ⟨dn1, hdn1⟩ : ∃ dn1, dn1 = dn ++ [D.tup [.tup [.str "late", .str "late", .int ((P.length + a : Nat) : Int), .int w.1, .int w.2], .dct (byD A B)]] := ⟨_, rfl⟩
  rw [← hdn1] at la
  have ld1 : dn1.length = dn.length + 1 := by rw [hdn1, List.length_append]; rfl
  have be := behind_walk (farR (r ++ P) WL) (farR_rising _ _) (by rw [farR_len]; exact lR) w.1 w.2 w1
  have e3 : farR (farR (r ++ P) WL) [(w.1, w.2)] = farR (r ++ P) WL' := by
    rw [farR_snoc]
    exact farR_congr fun s => (byw_perm pm s).symm
  rw [e3] at be
  have wa := walk_ok (byD A' B) dn1 [] "now" w.1 w.2 w1 (.lst (r.map D.int)) (.lst ((farR (r ++ P) WL).map D.int)) (.lst ((farR (r ++ P) WL').map D.int)) (P.map entP ++ W2.map entV) (by rw [by_now, hB]) be (le_szL (by rw [List.length_append, List.length_map, List.length_map]; omega)) (lt_szL (by omega)) (lt_szL (by rw [by_len]; omega))
  have es2 : P.map entP ++ W2.map entV ++ [entW w.1 w.2] = P.map entP ++ (W2 ++ [w]).map entV := by simp [entV]
  rw [es2, put_now] at wa
  obtain ⟨dn2, hdn2⟩ : ∃ dn2, dn2 = dn1 ++ [D.tup [.tup [.str "walk", .str "now", .int w.1, .int w.2], .dct (byD A' B)]] := ⟨_, rfl⟩
  rw [← hdn2] at wa
  have ld2 : dn2.length = dn1.length + 1 := by rw [hdn2, List.length_append]; rfl
  refine ⟨WL', dn2, eb', hW', lW, by omega, ?_⟩
  have H0 : hs r P WL W2 dn = houseD (byD A B) dn [] := by rw [hA, hB]; rfl
  have H2 : hs r P WL' (W2 ++ [w]) dn2 = houseD (byD A' (roadD (.lst (r.map D.int)) (.lst (P.map entP ++ (W2 ++ [w]).map entV)) (.lst ((farR (r ++ P) WL').map D.int)))) dn2 [] := by rw [hA']; rfl
  have rs := rows_same r P lR WL' (W2 ++ [w]) dn2 S (some (.lst (l.map D.int))) R x4 (some (.int (P.length : Nat))) X6 x7 x8 (some (.int (k : Nat))) (some (twoD w)) x11 x12
  rw [← H2] at wa
  rw [H0]
  have i0 : dIdx (twoD w) (.int 0) = .ok (.int w.1) := rfl
  have i1 : dIdx (twoD w) (.int 1) = .ok (.int w.2) := rfl
  have aj : ((P.length + a : Nat) : Int) = (P.length : Int) + v.fmod ((k : Int) + 1) := by rw [ea]; omega
  rw [aj] at la
  unfold b_law_2
  generalize hs r P WL' (W2 ++ [w]) dn2 = h2 at *
  generalize l.map D.int = ll at *
  generalize twoD w = tw at *
  generalize byD A B = b0 at *
  generalize byD A' B = b1 at *
  rw [seq_nx (r' := [S, some (.lst ll), R, some (houseD b1 dn1 []), x4, some (.int (P.length : Nat)), X6, x7, x8, some (.int (k : Nat)), some tw, x11, x12]) (exprX_at (i := 3) rfl (by simp [g, z0, i0, i1, -dIdx]) la),
    seq_nx (r' := [S, some (.lst ll), R, some h2, x4, some (.int (P.length : Nat)), X6, x7, x8, some (.int (k : Nat)), some tw, x11, x12]) (exprX_at (i := 3) rfl (by simp [i0, i1, -dIdx]) wa)]
  unfold mSeq mIf
  rw [rs]
  simp
theorem turn43b (l : List Int) (d1 : Drawn l) (hl : l.length = 80) (S R x4 x7 x8 x10 x11 x12 : Option D) (r P : List Int) (hP : P.length ≤ 1) (hr : Rising (r ++ P)) (hrl : r.length ≤ 50) (ws : List (Int × Int)) (k : Nat) (hk : k < ws.length) (hn : ws.length ≤ 8) (WL W2 : List (Int × Int)) (eb : ∀ s, byw WL s = byw W2 s) (hWL : Walks WL) (l1 : WL.length = ws.length - k) (l2 : W2.length = ws.length + k) (dn : List D) (hd : dn.length ≤ 100) :
    ∃ WL' w dn' y11 y12, (∀ s, byw WL' s = byw (W2 ++ [w]) s) ∧ Walks WL' ∧ WL'.length = ws.length - (k + 1) ∧ dn'.length ≤ dn.length + 2 ∧ b_law_3 [S, some (.lst (l.map D.int)), R, some (hs r P WL W2 dn), x4, some (.int (P.length : Nat)), some (.lst (ws.map twoD)), x7, x8, some (.int (k : Nat)), x10, x11, x12] =
      .nx [S, some (.lst (l.map D.int)), R, some (hs r P WL' (W2 ++ [w]) dn'), x4, some (.int (P.length : Nat)), some (.lst (ws.map twoD)), x7, x8, some (.int (k : Nat)), x10, y11, y12] := by
  obtain ⟨v, p, q, g⟩ := drawn_get d1 (i := 60 + k) (by omega) (j := 60 + (k : Int)) (by omega)
  have f := fmod_pos (a := v) (b := (ws.length : Int) - (k : Int)) (by omega)
  obtain ⟨a, ea, ha⟩ : ∃ a : Nat, v.fmod ((ws.length : Int) - (k : Int)) = (a : Int) ∧ a < WL.length := ⟨(v.fmod ((ws.length : Int) - (k : Int))).toNat, by rw [Int.toNat_of_nonneg f.1], by omega⟩
  have z0 : ¬ (ws.length : Int) - (k : Int) = 0 := by omega
  have lR : (r ++ P).length ≤ 60 := by rw [List.length_append]; omega
  obtain ⟨w, hw⟩ : ∃ w, WL[a]? = some w := ⟨WL[a], by simp [ha]⟩
  have w1 : 1 ≤ w.1 := hWL w (List.mem_of_getElem? hw)
  obtain ⟨WL', eW⟩ : ∃ WL', WL' = WL.take a ++ WL.drop (a + 1) := ⟨_, rfl⟩
  have pm : WL.Perm (w :: WL') := by
    have e : WL = WL.take a ++ w :: WL.drop (a + 1) := by
      conv => lhs; rw [← List.take_append_drop a WL]
      rw [List.drop_eq_getElem_cons ha]
      have : WL[a] = w := by
        have := hw
        rw [List.getElem?_eq_getElem ha] at this
        exact Option.some.inj this
      rw [this]
    rw [eW]
    conv => lhs; rw [e]
    exact List.perm_middle
  have hW' : Walks WL' := fun x hx => hWL x (pm.mem_iff.mpr (List.mem_cons_of_mem _ hx))
  have lW : WL'.length = ws.length - (k + 1) := by
    have := pm.length_eq
    rw [List.length_cons] at this
    omega
  have byW : ∀ s, byw WL s = byw [w] s + byw WL' s := fun s => by rw [byw_perm pm, show w :: WL' = [w] ++ WL' from rfl, byw_app]
  have byN : ∀ s, byw [(w.1, -w.2)] s = -byw [w] s := fun s => by
    rw [byw_cons, byw_cons, byw_nil]
    simp [Int.neg_mul]
  have eb' : ∀ s, byw WL' s = byw (W2 ++ [(w.1, -w.2)]) s := fun s => by
    rw [byw_app, byN, ← eb, byW]
    omega
  have go := gone_full r P hP hr hrl WL' hW' (by omega)
  have es1 : (P.map entP ++ WL.map entV).take (P.length + a) ++ (P.map entP ++ WL.map entV).drop (P.length + a + 1) = P.map entP ++ WL'.map entV := by
    have t1 := take_pre (p := P.map entP) (q := WL.map entV) a
    have t2 := drop_pre (p := P.map entP) (q := WL.map entV) (a + 1)
    rw [List.length_map] at t1 t2
    rw [t1, show P.length + a + 1 = P.length + (a + 1) by omega, t2, eW, ← List.map_take, ← List.map_drop]
    simp
  have at_ : (P.map entP ++ WL.map entV)[P.length + a]? = some (entW w.1 w.2) := by
    rw [List.getElem?_append_right (by rw [List.length_map]; omega), List.length_map, Nat.add_sub_cancel_left, List.getElem?_map, hw]
    rfl
  obtain ⟨A, hA⟩ : ∃ A, A = roadD (.lst (r.map D.int)) (.lst (P.map entP ++ WL.map entV)) (.lst ((farR (r ++ P) WL).map D.int)) := ⟨_, rfl⟩
  obtain ⟨B, hB⟩ : ∃ B, B = roadD (.lst (r.map D.int)) (.lst (P.map entP ++ W2.map entV)) (.lst ((farR (r ++ P) WL).map D.int)) := ⟨_, rfl⟩
  have lg := hlog_ok (byD A B) dn [] "late" (.lst (r.map D.int)) (.lst ((farR (r ++ P) WL).map D.int)) (P.map entP ++ WL.map entV) (by rw [by_late, hA])
  have la := strike_ok (byD A B) dn [] "late" (P.length + a) w.1 w.2 (.lst (r.map D.int)) (.lst ((farR (r ++ P) WL).map D.int)) (.lst ((farR (r ++ P) WL').map D.int)) (P.map entP ++ WL.map entV) at_ (by rw [by_late, hA]) (by rw [es1]; exact go) (le_szL (by rw [List.length_append, List.length_map, List.length_map]; omega)) (lt_szL (by omega)) (lt_szL (by rw [by_len]; omega))
  rw [es1, put_late] at la
  obtain ⟨A', hA'⟩ : ∃ A', A' = roadD (.lst (r.map D.int)) (.lst (P.map entP ++ WL'.map entV)) (.lst ((farR (r ++ P) WL').map D.int)) := ⟨_, rfl⟩
  rw [← hA'] at la
  obtain ⟨dn1, hdn1⟩ : ∃ dn1, dn1 = dn ++ [D.tup [.tup [.str "strike", .str "late", .int ((P.length + a : Nat) : Int)], .dct (byD A B)]] := ⟨_, rfl⟩
  rw [← hdn1] at la
  have ld1 : dn1.length = dn.length + 1 := by rw [hdn1, List.length_append]; rfl
  have be := behind_walk (farR (r ++ P) WL) (farR_rising _ _) (by rw [farR_len]; exact lR) w.1 (-w.2) w1
  have e3 : farR (farR (r ++ P) WL) [(w.1, -w.2)] = farR (r ++ P) WL' := by
    rw [farR_snoc]
    refine farR_congr fun s => ?_
    rw [byw_app, byN, byW]
    omega
  rw [e3] at be
  have wa := walk_ok (byD A' B) dn1 [] "now" w.1 (-w.2) w1 (.lst (r.map D.int)) (.lst ((farR (r ++ P) WL).map D.int)) (.lst ((farR (r ++ P) WL').map D.int)) (P.map entP ++ W2.map entV) (by rw [by_now, hB]) be (le_szL (by rw [List.length_append, List.length_map, List.length_map]; omega)) (lt_szL (by omega)) (lt_szL (by rw [by_len]; omega))
  have es2 : P.map entP ++ W2.map entV ++ [entW w.1 (-w.2)] = P.map entP ++ (W2 ++ [(w.1, -w.2)]).map entV := by simp [entV]
  rw [es2, put_now] at wa
  obtain ⟨dn2, hdn2⟩ : ∃ dn2, dn2 = dn1 ++ [D.tup [.tup [.str "walk", .str "now", .int w.1, .int (-w.2)], .dct (byD A' B)]] := ⟨_, rfl⟩
  rw [← hdn2] at wa
  have ld2 : dn2.length = dn1.length + 1 := by rw [hdn2, List.length_append]; rfl
  refine ⟨WL', (w.1, -w.2), dn2, some (.int ((P.length + a : Nat) : Int)), some (entW w.1 w.2), eb', hW', lW, by omega, ?_⟩
  have H0 : hs r P WL W2 dn = houseD (byD A B) dn [] := by rw [hA, hB]; rfl
  have H2 : hs r P WL' (W2 ++ [(w.1, -w.2)]) dn2 = houseD (byD A' (roadD (.lst (r.map D.int)) (.lst (P.map entP ++ (W2 ++ [(w.1, -w.2)]).map entV)) (.lst ((farR (r ++ P) WL').map D.int)))) dn2 [] := by rw [hA']; rfl
  have rs := rows_same r P lR WL' (W2 ++ [(w.1, -w.2)]) dn2 S (some (.lst (l.map D.int))) R x4 (some (.int (P.length : Nat))) (some (.lst (ws.map twoD))) x7 x8 (some (.int (k : Nat))) x10 (some (.int ((P.length + a : Nat) : Int))) (some (entW w.1 w.2))
  rw [← H2] at wa
  rw [H0]
  have i1 : dIdx (entW w.1 w.2) (.int 1) = .ok (.int w.1) := rfl
  have i2 : dIdx (entW w.1 w.2) (.int 2) = .ok (.int w.2) := rfl
  have ia : dIdx (.lst (P.map entP ++ WL.map entV)) (.int ((P.length + a : Nat) : Int)) = .ok (entW w.1 w.2) := dIdx_list at_
  have aj : ((P.length + a : Nat) : Int) = (P.length : Int) + v.fmod ((ws.length : Int) - (k : Int)) := by rw [ea]; omega
  have fl : fLen [.lst (ws.map twoD)] = .ok (.int (ws.length : Nat)) := by simp [fLen]
  unfold b_law_3
  generalize hs r P WL' (W2 ++ [(w.1, -w.2)]) dn2 = h2 at *
  generalize l.map D.int = ll at *
  generalize entW w.1 w.2 = en at *
  generalize byD A B = b0 at *
  generalize byD A' B = b1 at *
  generalize ws.map twoD = wsD at *
  generalize P.map entP ++ WL.map entV = esD at *
  rw [aj] at la ia rs ⊢
  rw [seq_nx (r' := [S, some (.lst ll), R, some (houseD b0 dn []), x4, some (.int (P.length : Nat)), some (.lst wsD), x7, x8, some (.int (k : Nat)), x10, some (.int ((P.length : Int) + v.fmod ((ws.length : Int) - (k : Int)))), x12]) (by simp [g, z0, fl, -dIdx, -fLen]),
    seq_nx (r' := [S, some (.lst ll), R, some (houseD b0 dn []), x4, some (.int (P.length : Nat)), some (.lst wsD), x7, x8, some (.int (k : Nat)), x10, some (.int ((P.length : Int) + v.fmod ((ws.length : Int) - (k : Int)))), some en]) (by simp [meth_hlog, lg, ia, -dIdx]),
    seq_nx (r' := [S, some (.lst ll), R, some (houseD b1 dn1 []), x4, some (.int (P.length : Nat)), some (.lst wsD), x7, x8, some (.int (k : Nat)), x10, some (.int ((P.length : Int) + v.fmod ((ws.length : Int) - (k : Int)))), some en]) (exprX_at (i := 3) rfl (by simp) la),
    seq_nx (r' := [S, some (.lst ll), R, some h2, x4, some (.int (P.length : Nat)), some (.lst wsD), x7, x8, some (.int (k : Nat)), x10, some (.int ((P.length : Int) + v.fmod ((ws.length : Int) - (k : Int)))), some en]) (exprX_at (i := 3) rfl (by simp [i1, i2, -dIdx]) wa)]
  unfold mSeq mIf
  rw [rs]
  simp
theorem draw43 (l : List Int) (h : Drawn l) (hl : l.length = 80) (ws : List (Int × Int)) (hz : ws.length ≤ 8) (c n : Int) (hn : -4 ≤ n ∧ n ≤ 4) (R0 R2 R3 R4 R5 x y z u : Option D) : ∃ m : Int, b_law_1 [R0, some (.lst (l.map D.int)), R2, R3, R4, R5, some (.lst (ws.map twoD)), some (.int c), some (.int n), x, y, z, u] = .nx [R0, some (.lst (l.map D.int)), R2, R3, R4, R5, some (.lst ((ws ++ [(c, m)]).map twoD)), some (.int c), some (.int n), x, y, z, u] := by
  obtain ⟨v, v1, v2, e⟩ := drawn_get h (i := 60 + ws.length) (by omega) (j := 60 + (ws.length : Int)) (by omega)
  have f := fmod_pos (a := v) (b := 40) (by decide)
  have et : f_ten_L [.int (v.fmod 40)] = .ok (.int (10 ^ (v.fmod 40).toNat)) := by
    have := ten_ok (v.fmod 40).toNat (by omega)
    rwa [Int.toNat_of_nonneg f.1] at this
  have ms : mulOk n (10 ^ (v.fmod 40).toNat) = true := mulOk_left (by omega) (by omega)
  have lz : ws.length < szL := lt_szL (by omega)
  refine ⟨n * 10 ^ (v.fmod 40).toNat, ?_⟩
  generalize (10 : Int) ^ (v.fmod 40).toNat = T at *
  rw [← app_pair]
  simp [b_law_1, e, et, ms, lz, le_szL (n := 2) (by decide), -dIdx]
theorem house0 : dMake "House" f_House___init__ [] = .ok (houseD [] [] []) := by
  have s0 : (0 : Nat) ≤ szL := le_szL (by decide)
  simp [f_House___init__, m_House___init__, houseD, s0]
theorem law_ok (ns : List Int) (hn : ns.length ≤ 63) : f_law [.scr ns] = .ok (.bl true) := by
  obtain ⟨l, e1, hl, d1⟩ := numbers_ok ns hn 80 (by decide)
  have e1' : f_numbers_L [.scr ns, .int 80] = .ok (.lst (l.map D.int)) := e1
  obtain ⟨v0, p0, q0, g0⟩ := drawn_get d1 (i := 0) (by omega) (j := 0) rfl
  obtain ⟨v1, p1, q1, g1⟩ := drawn_get d1 (i := 1) (by omega) (j := 1) rfl
  obtain ⟨v2, p2, q2, g2⟩ := drawn_get d1 (i := 2) (by omega) (j := 2) rfl
  obtain ⟨m, hm, em⟩ := pick3 5 12 20 v0
  have d4 : Drawn (l.drop 4) := fun d hd => d1 d (List.mem_of_mem_drop hd)
  have d40 : Drawn (l.drop 40) := fun d hd => d1 d (List.mem_of_mem_drop hd)
  obtain ⟨r, er, hr1, hr2⟩ := long_row_ok (l.drop 4) d4 m.toNat (by omega) (by rw [List.length_drop]; omega)
  have er' : f_long_row_L [.lst ((l.drop 4).map D.int), .int m] = .ok (.lst (r.map D.int)) := by
    rw [Int.toNat_of_nonneg (by omega)] at er
    exact er
  obtain ⟨ws0, ew, hw1, hw2, hw3⟩ := walks_ok (l.drop 40) d40 8 (by omega) (by rw [List.length_drop]; omega)
  have ew' : f_walks_L [.lst ((l.drop 40).map D.int), .int 8] = .ok (.lst (ws0.map twoD)) := ew
  have c4 : cutL (l.map D.int) (some 4) none = (l.drop 4).map D.int := by rw [cutL_from (k := 4) (by simp; omega), List.map_drop]
  have c40 : cutL (l.map D.int) (some 40) none = (l.drop 40).map D.int := by rw [cutL_from (k := 40) (by simp; omega), List.map_drop]
  have lr : r.length ≤ 20 := by omega
  -- the house as it is built
  obtain ⟨A0, hA0⟩ : ∃ A0, A0 = roadD (.lst (r.map D.int)) (.lst []) (.lst (r.map D.int)) := ⟨_, rfl⟩
  have b1 := build_ok [] [] [] "late" (by decide +kernel) (by decide +kernel) r hr2 (by omega) rfl (lt_szL (by decide)) (by decide)
  rw [← hA0] at b1
  have b1' : f_House_build [houseD [] [] [], .str "late", .lst (r.map D.int)] = .rt .non [some (houseD [(.inr "late", A0)] [.tup [.tup [.str "build", .str "late", .tup (r.map D.int)], .dct []]] [])] := b1
  have b2 := build_ok [(.inr "late", A0)] [.tup [.tup [.str "build", .str "late", .tup (r.map D.int)], .dct []]] [] "now" (by decide +kernel) (by decide +kernel) r hr2 (by omega) rfl (lt_szL (n := 1) (by decide)) (by simp)
  rw [← hA0] at b2
  obtain ⟨dn0, hdn0⟩ : ∃ dn0 : List D, dn0 = [.tup [.tup [.str "build", .str "late", .tup (r.map D.int)], .dct []]] ++ [.tup [.tup [.str "build", .str "now", .tup (r.map D.int)], .dct [(.inr "late", A0)]]] := ⟨_, rfl⟩
  have b2' : f_House_build [houseD [(.inr "late", A0)] [.tup [.tup [.str "build", .str "late", .tup (r.map D.int)], .dct []]] [], .str "now", .lst (r.map D.int)] = .rt .non [some (houseD (byD A0 A0) dn0 [])] := by
    rw [hdn0]
    exact b2
  have ld0 : dn0.length = 2 := by rw [hdn0]; rfl
  obtain ⟨p, hp⟩ : ∃ p, p = topR r + 2 + v1.fmod 5 := ⟨_, rfl⟩
  have f5 := fmod_pos (a := v1) (b := 5) (by decide)
  have f2 := fmod_pos (a := v2) (b := 2) (by decide)
  have mx := fMaxD_ok r
  have rp : Rising (r ++ [p]) := List.pairwise_append.mpr ⟨hr2, List.pairwise_singleton _ _, fun x hx y hy => by
    have := (low_le hx).2
    simp at hy
    omega⟩
  have fli : ∀ xs : List D, fList [.lst xs] = .ok (.lst xs) := fun _ => rfl
  -- the puttings
  obtain ⟨P, dn1, hP, hPr, hd1, mid⟩ : ∃ (P : List Int) (dn1 : List D), P.length ≤ 1 ∧ Rising (r ++ P) ∧ dn1.length ≤ 4 ∧ (dMul (.lst [.int p]) (.int (P.length : Nat)) = .ok (.lst (P.map D.int)) ∧
      ∀ (S L R : Option D), L = some (.lst (l.map D.int)) → mIf (gTest (gBin dEq (gBin dMod (gBin dIdx (gVar 1) (gC (.int 2))) (gC (.int 2))) (gC (.int 1))))
        (mSeq (mSet 5 (gC (.int 1))) (mSeq (mExprX (mMeth "House" 3 f_House_put (VL.gCons (gC (.str "late")) (VL.gCons (gVar 4) VL.gNil)))) (mSeq (mExprX (mMeth "House" 3 f_House_put (VL.gCons (gC (.str "now")) (VL.gCons (gVar 4) VL.gNil)))) mNil))) mNil
        [S, L, R, some (houseD (byD A0 A0) dn0 []), some (.int p), some (.int 0), none, none, none, none, none, none, none] = .nx [S, L, R, some (hs r P [] [] dn1), some (.int p), some (.int (P.length : Nat)), none, none, none, none, none, none, none]) := by
    by_cases c : v2.fmod 2 = 1
    · have pu1 := put_ok (byD A0 A0) dn0 [] "late" p (.lst (r.map D.int)) (.lst (r.map D.int)) (.lst ((r ++ [p]).map D.int)) [] (by rw [by_late, hA0]) (behind_put r p rp (by omega)) (le_szL (by decide)) (lt_szL (by omega)) (lt_szL (by rw [by_len]; omega))
      rw [put_late] at pu1
      obtain ⟨A1, hA1⟩ : ∃ A1, A1 = roadD (.lst (r.map D.int)) (.lst ([] ++ [entP p])) (.lst ((r ++ [p]).map D.int)) := ⟨_, rfl⟩
      rw [← hA1] at pu1
      obtain ⟨dn2, hdn2⟩ : ∃ dn2, dn2 = dn0 ++ [D.tup [.tup [.str "put", .str "late", .int p], .dct (byD A0 A0)]] := ⟨_, rfl⟩
      rw [← hdn2] at pu1
      have ld2 : dn2.length = 3 := by rw [hdn2, List.length_append, ld0]; rfl
      have pu2 := put_ok (byD A1 A0) dn2 [] "now" p (.lst (r.map D.int)) (.lst (r.map D.int)) (.lst ((r ++ [p]).map D.int)) [] (by rw [by_now, hA0]) (behind_put r p rp (by omega)) (le_szL (by decide)) (lt_szL (by omega)) (lt_szL (by rw [by_len]; omega))
      rw [put_now, ← hA1] at pu2
      refine ⟨[p], dn2 ++ [D.tup [.tup [.str "put", .str "now", .int p], .dct (byD A1 A0)]], by simp, rp, by rw [List.length_append, ld2]; simp, ?_, fun S L R eL => ?_⟩
      · show (if -i63 ≤ (1 : Int) ∧ (1 : Int) < i63 ∧ 1 * 1 ≤ szL then _ else _) = _
        rw [if_pos ⟨by rw [i63_val]; decide, by rw [i63_val]; decide, le_szL (by decide)⟩]
        rfl
      · subst eL
        have H2 : hs r [p] [] [] (dn2 ++ [D.tup [.tup [.str "put", .str "now", .int p], .dct (byD A1 A0)]]) = houseD (byD A1 A1) (dn2 ++ [D.tup [.tup [.str "put", .str "now", .int p], .dct (byD A1 A0)]]) [] := by
          unfold hs
          rw [farR_nil rp, hA1]
          rfl
        rw [← H2] at pu2
        generalize hs r [p] [] [] (dn2 ++ [D.tup [.tup [.str "put", .str "now", .int p], .dct (byD A1 A0)]]) = h2 at *
        generalize l.map D.int = ll at *
        generalize byD A0 A0 = b0 at *
        generalize byD A1 A0 = b1 at *
        have tt : (gTest (gBin dEq (gBin dMod (gBin dIdx (gVar 1) (gC (.int 2))) (gC (.int 2))) (gC (.int 1)))) [S, some (.lst ll), R, some (houseD b0 dn0 []), some (.int p), some (.int 0), none, none, none, none, none, none, none] = .ok true := by simp [g2, c, -dIdx]
        unfold mIf
        rw [tt]
        dsimp only [onR]
        rw [if_pos rfl, seq_nx (r' := [S, some (.lst ll), R, some (houseD b0 dn0 []), some (.int p), some (.int 1), none, none, none, none, none, none, none]) (by simp),
          seq_nx (r' := [S, some (.lst ll), R, some (houseD b1 dn2 []), some (.int p), some (.int 1), none, none, none, none, none, none, none]) (exprX_at (i := 3) rfl (by simp) pu1),
          seq_nx (r' := [S, some (.lst ll), R, some h2, some (.int p), some (.int 1), none, none, none, none, none, none, none]) (exprX_at (i := 3) rfl (by simp) pu2)]
        rfl
    · refine ⟨[], dn0, by simp, by rw [List.append_nil]; exact hr2, by omega, ?_, fun S L R eL => ?_⟩
      · show (if -i63 ≤ (0 : Int) ∧ (0 : Int) < i63 ∧ 1 * 0 ≤ szL then _ else _) = _
        rw [if_pos ⟨by rw [i63_val]; decide, by rw [i63_val]; decide, le_szL (by decide)⟩]
        rfl
      · subst eL
        have H2 : hs r [] [] [] dn0 = houseD (byD A0 A0) dn0 [] := by
          unfold hs
          rw [List.append_nil, farR_nil hr2, hA0]
          rfl
        rw [H2]
        generalize l.map D.int = ll at *
        generalize byD A0 A0 = b0 at *
        simp [g2, c, -dIdx]
  obtain ⟨mulP, mid⟩ := mid
  have lrP : (r ++ P).length ≤ 21 := by rw [List.length_append]; omega
  -- the walks drawn
  obtain ⟨r', e5, ws, x7, x8, hr, hW, hN⟩ := forL_foldI twoD (fun (u : Unit) _ => u) (fun n _ t => ∃ (ws : List (Int × Int)) (a b : Option D), t = [some (.scr ns), some (.lst (l.map D.int)), some (.lst (r.map D.int)), some (hs r P [] [] dn1), some (.int p), some (.int (P.length : Nat)), some (.lst (ws.map twoD)), a, b, none, none, none, none] ∧ Walks ws ∧ ws.length = n) (.tup [7, 8]) b_law_1 ws0 0 ()
    [some (.scr ns), some (.lst (l.map D.int)), some (.lst (r.map D.int)), some (hs r P [] [] dn1), some (.int p), some (.int (P.length : Nat)), some (.lst []), none, none, none, none, none, none] ⟨[], none, none, rfl, fun w hw => (nomatch hw), rfl⟩ (fun i w hi hw u t ⟨ws, a, b, e, hW, hN⟩ => by
      subst e
      obtain ⟨mm, st⟩ := draw43 l d1 hl ws (by omega) w.1 w.2 (hw3 w hw) (some (.scr ns)) (some (.lst (r.map D.int))) (some (hs r P [] [] dn1)) (some (.int p)) (some (.int (P.length : Nat))) none none none none
      refine ⟨[.int w.1, .int w.2], _, rfl, st, ws ++ [(w.1, mm)], _, _, rfl, fun x hx => ?_, by simp; omega⟩
      rcases List.mem_append.mp hx with z | z
      · exact hW x z
      · have : x = (w.1, mm) := by simpa using z
        subst this
        exact hw2 w hw)
  subst hr
  have lw : ws.length ≤ 8 := by omega
  -- late and now
  obtain ⟨r2, e6, WL, dn2, x9, x10, hr2', eb, hWL, lWL, ld2⟩ := forL_enum twoD (fun n t => ∃ (WL : List (Int × Int)) (dn : List D) (a b : Option D), t = [some (.scr ns), some (.lst (l.map D.int)), some (.lst (r.map D.int)), some (hs r P WL (ws.take n) dn), some (.int p), some (.int (P.length : Nat)), some (.lst (ws.map twoD)), x7, x8, a, b, none, none] ∧ (∀ s, byw WL s = byw (ws.take n) s) ∧ Walks WL ∧ WL.length = min n ws.length ∧ dn.length ≤ 4 + 2 * n) (.tup [9, 10]) b_law_2 ws 0
    [some (.scr ns), some (.lst (l.map D.int)), some (.lst (r.map D.int)), some (hs r P [] [] dn1), some (.int p), some (.int (P.length : Nat)), some (.lst (ws.map twoD)), x7, x8, none, none, none, none] ⟨[], dn1, none, none, rfl, fun s => rfl, fun w hw => (nomatch hw), by simp, by omega⟩ (fun i w hi t ⟨WL, dn, a, b, e, eb, hWL, lWL, ld⟩ => by
      subst e
      rw [Nat.zero_add] at eb lWL ld ⊢
      have hlt : i < ws.length := (List.getElem?_eq_some_iff.mp hi).1
      obtain ⟨WL', dn', eb', hW', lW', ld', st⟩ := turn43a l d1 hl (some (.scr ns)) (some (.lst (r.map D.int))) (some (.int p)) (some (.lst (ws.map twoD))) x7 x8 none none r P hP hPr (by omega) i (by omega) w (hW w (List.mem_of_getElem? hi)) WL (ws.take i) eb hWL (fun x hx => hW x (List.mem_of_mem_take hx)) (by omega) (by rw [List.length_take]; omega) dn (by omega)
      have tk : ws.take i ++ [w] = ws.take (i + 1) := by rw [List.take_add_one, hi]; rfl
      rw [tk] at eb' st
      exact ⟨[.int (i : Nat), twoD w], _, rfl, st, WL', dn', _, _, rfl, eb', hW', by omega, by omega⟩)
  subst hr2'
  rw [Nat.zero_add] at eb lWL ld2 e6
  rw [List.take_of_length_le (Nat.le_refl _)] at eb e6
  rw [Nat.min_self] at lWL
  -- struck again
  obtain ⟨r3, e7, WL3, W3, dn3, x9', x11, x12, hr3, eb3, hW3, lW3, lX3, ld3⟩ := forL_nat (fun n t => ∃ (WL W2 : List (Int × Int)) (dn : List D) (a y z : Option D), t = [some (.scr ns), some (.lst (l.map D.int)), some (.lst (r.map D.int)), some (hs r P WL W2 dn), some (.int p), some (.int (P.length : Nat)), some (.lst (ws.map twoD)), x7, x8, a, x10, y, z] ∧ (∀ s, byw WL s = byw W2 s) ∧ Walks WL ∧ WL.length = ws.length - n ∧ W2.length = ws.length + n ∧ dn.length ≤ 20 + 2 * n) (.one 9) b_law_3 ws.length 0
    [some (.scr ns), some (.lst (l.map D.int)), some (.lst (r.map D.int)), some (hs r P WL ws dn2), some (.int p), some (.int (P.length : Nat)), some (.lst (ws.map twoD)), x7, x8, x9, x10, none, none] ⟨WL, ws, dn2, x9, none, none, rfl, eb, hWL, by omega, by omega, by omega⟩ (fun i hi t ⟨WL, W2, dn, a, y, z, e, eb, hWL, lWL, lX, ld⟩ => by
      subst e
      rw [Nat.zero_add] at lWL lX ld ⊢
      obtain ⟨WL', w, dn', y11, y12, eb', hW', lW', ld', st⟩ := turn43b l d1 hl (some (.scr ns)) (some (.lst (r.map D.int))) (some (.int p)) x7 x8 x10 y z r P hP hPr (by omega) ws i hi lw WL W2 eb hWL lWL lX dn (by omega)
      exact ⟨[.int (i : Nat)], _, rfl, st, WL', W2 ++ [w], dn', _, _, _, rfl, eb', hW', lW', by rw [List.length_append, lX]; rfl, by omega⟩)
  subst hr3
  rw [Nat.zero_add] at lW3 lX3
  have w30 : WL3 = [] := List.length_eq_zero_iff.mp (by omega)
  subst w30
  -- far
  have fa := far_ok (r ++ P) ws hPr (by omega) hW
  have so := sorted_ints (r ++ P)
  rw [sort_of (List.Perm.refl _) hPr] at so
  have A1 : dAdd (.lst (r.map D.int)) (.lst (P.map D.int)) = .ok (.lst ((r ++ P).map D.int)) := by
    rw [List.map_append]
    show (if (r.map D.int).length + (P.map D.int).length ≤ szL then _ else _) = _
    rw [if_pos (le_szL (by rw [List.length_map, List.length_map]; rw [List.length_append] at lrP; omega))]
  have en : farR (r ++ P) ws = farR (r ++ P) WL := farR_congr fun s => (eb s).symm
  have ro1 : f_House_row [hs r P WL ws dn2, .str "now"] = .ok (.lst ((farR (r ++ P) WL).map D.int)) := hrow_ok _ _ _ _ _ _ _ (by_now _ _)
  have n1 := ne_ints (farR (r ++ P) WL) (by rw [farR_len]; omega)
  have ro2 : f_House_row [hs r P [] W3 dn3, .str "late"] = .ok (.lst ((r ++ P).map D.int)) := by
    have := hrow_ok (byD (roadD (.lst (r.map D.int)) (.lst (P.map entP ++ ([] : List (Int × Int)).map entV)) (.lst ((farR (r ++ P) []).map D.int))) (roadD (.lst (r.map D.int)) (.lst (P.map entP ++ W3.map entV)) (.lst ((farR (r ++ P) []).map D.int)))) dn3 [] "late" _ _ _ (by_late _ _)
    rw [farR_nil hPr] at this
    unfold hs
    rw [farR_nil hPr]
    exact this
  have lo2 : f_House_log [hs r P [] W3 dn3, .str "now"] = .ok (.lst (P.map entP ++ W3.map entV)) := hlog_ok _ _ _ _ _ _ _ (by_now _ _)
  have mh1 : ∀ t, dMethR "House" "row" f_House_row (hs r P WL ws dn2) t = t >>= fun ds => f_House_row (hs r P WL ws dn2 :: ds) := fun t => meth_hrow _ _ _ _ _
  have mh2 : ∀ t, dMethR "House" "row" f_House_row (hs r P [] W3 dn3) t = t >>= fun ds => f_House_row (hs r P [] W3 dn3 :: ds) := fun t => meth_hrow _ _ _ _ _
  have mh3 : ∀ t, dMethR "House" "log" f_House_log (hs r P [] W3 dn3) t = t >>= fun ds => f_House_log (hs r P [] W3 dn3 :: ds) := fun t => meth_hlog _ _ _ _ _
  have eq2 : dEq (.lst ((r ++ P).map D.int)) (.lst ((r ++ P).map D.int)) = .ok (.bl true) := by
    rw [eq_ints _ _ (by omega) (by omega)]
    simp
  have fl1 : fLen [.lst (P.map entP ++ W3.map entV)] = .ok (.int ((P.length : Int) + 2 * (ws.length : Int))) := by
    have : (P.map entP ++ W3.map entV).length = P.length + 2 * ws.length := by rw [List.length_append, List.length_map, List.length_map]; omega
    simp only [fLen]
    rw [this]
    simp
  have fl2 : fLen [.lst (ws.map twoD)] = .ok (.int (ws.length : Nat)) := by simp [fLen]
  have eq3 : dEq (.int ((P.length : Int) + 2 * (ws.length : Int))) (.int ((P.length : Int) + 2 * (ws.length : Int))) = .ok (.bl true) := dEq_self (n := 1) (by decide) rfl
  have m2 : mulOk 2 (ws.length : Int) = true := mulOk_left (by decide) (by decide)
  have M2 : dMul (.int 2) (.int (ws.length : Nat)) = .ok (.int (2 * (ws.length : Int))) := dMul_ok m2
  have rg := dRange1_nat (n := ws.length) (by omega)
  rw [range_split] at rg
  have e6' : forL (.tup [9, 10]) b_law_2 (enumD (ws.map twoD)) [some (.scr ns), some (.lst (l.map D.int)), some (.lst (r.map D.int)), some (hs r P [] [] dn1), some (.int p), some (.int (P.length : Nat)), some (.lst (ws.map twoD)), x7, x8, none, none, none, none] = _ := e6
  have s0 : (0 : Nat) ≤ szL := le_szL (by decide)
  have s1 : (1 : Nat) ≤ szL := le_szL (by decide)
  have A2 : dAdd (.int (topR r)) (.int 2) = .ok (.int (topR r + 2)) := rfl
  have A3 : dAdd (.int (topR r + 2)) (.int (v1.fmod 5)) = .ok (.int p) := by rw [hp]; rfl
  have A4 : dAdd (.int (P.length : Nat)) (.int (2 * (ws.length : Int))) = .ok (.int ((P.length : Int) + 2 * (ws.length : Int))) := rfl
  rw [en] at fa
  have mid' := mid (some (.scr ns)) (some (.lst (l.map D.int))) (some (.lst (r.map D.int))) rfl
  generalize hs r P [] W3 dn3 = H3 at *
  generalize hs r P WL ws dn2 = H2 at *
  generalize hs r P [] [] dn1 = H1 at *
  generalize P.map entP ++ W3.map entV = esD at *
  generalize (farR (r ++ P) WL).map D.int = fD at *
  generalize (r ++ P).map D.int = rPD at *
  generalize P.map D.int = PD at *
  generalize (l.drop 4).map D.int = l4 at *
  generalize (l.drop 40).map D.int = l40 at *
  generalize l.map D.int = lD at *
  generalize r.map D.int = rD at *
  generalize hsw : enumD (ws.map twoD) = enD at *
  generalize (List.range' 0 ws.length).map (fun (i : Nat) => D.int i) = rgD at *
  generalize ws0.map twoD = ws0D at *
  generalize ws.map twoD = wsD at *
  generalize byD A0 A0 = bb0 at *
  have ge : gEnumerate (gVar 6) [some (.scr ns), some (.lst lD), some (.lst rD), some H1, some (.int p), some (.int (P.length : Nat)), some (.lst wsD), x7, x8, none, none, none, none] = .ok enD := by
    rw [← hsw]
    simp [gEnumerate, dEnumI]
  unfold f_law runF m_law
  show outF (mSeq _ _ [some (.scr ns), none, none, none, none, none, none, none, none, none, none, none, none]) = _
  rw [seq_nx (r' := [some (.scr ns), some (.lst lD), none, none, none, none, none, none, none, none, none, none, none]) (by simp [e1']),
    seq_nx (r' := [some (.scr ns), some (.lst lD), some (.lst rD), none, none, none, none, none, none, none, none, none, none]) (by simp [c4, em, g0, er', le_szL (n := 3) (by decide), -dIdx]),
    seq_nx (r' := [some (.scr ns), some (.lst lD), some (.lst rD), some (houseD [] [] []), none, none, none, none, none, none, none, none, none]) (by simp [house0, -dMake]),
    seq_nx (r' := [some (.scr ns), some (.lst lD), some (.lst rD), some (houseD [(.inr "late", A0)] [.tup [.tup [.str "build", .str "late", .tup rD], .dct []]] []), none, none, none, none, none, none, none, none, none]) (exprX_at (i := 3) rfl (by simp) b1'),
    seq_nx (r' := [some (.scr ns), some (.lst lD), some (.lst rD), some (houseD bb0 dn0 []), none, none, none, none, none, none, none, none, none]) (exprX_at (i := 3) rfl (by simp) b2'),
    seq_nx (r' := [some (.scr ns), some (.lst lD), some (.lst rD), some (houseD bb0 dn0 []), some (.int p), none, none, none, none, none, none, none, none]) (by simp [mx, g1, A2, A3, -dIdx, -dAdd]),
    seq_nx (r' := [some (.scr ns), some (.lst lD), some (.lst rD), some (houseD bb0 dn0 []), some (.int p), some (.int 0), none, none, none, none, none, none, none]) (by simp),
    seq_nx mid',
    seq_nx (r' := [some (.scr ns), some (.lst lD), some (.lst rD), some H1, some (.int p), some (.int (P.length : Nat)), some (.lst []), none, none, none, none, none, none]) (by simp [s0]),
    seq_nx (r' := [some (.scr ns), some (.lst lD), some (.lst rD), some H1, some (.int p), some (.int (P.length : Nat)), some (.lst wsD), x7, x8, none, none, none, none]) (by simp [c40, ew', e5]),
    seq_nx (r' := [some (.scr ns), some (.lst lD), some (.lst rD), some H2, some (.int p), some (.int (P.length : Nat)), some (.lst wsD), x7, x8, x9, x10, none, none]) (by unfold mFor; rw [ge]; exact e6'),
    seq_nx (r' := [some (.scr ns), some (.lst lD), some (.lst rD), some H2, some (.int p), some (.int (P.length : Nat)), some (.lst wsD), x7, x8, x9, x10, none, none]) (by simp [s1, mulP, A1, so, fa, mh1, ro1, n1, -dAdd, -dMul]),
    seq_nx (r' := [some (.scr ns), some (.lst lD), some (.lst rD), some H3, some (.int p), some (.int (P.length : Nat)), some (.lst wsD), x7, x8, x9', x10, x11, x12]) (by simp [fl2, rg, e7, -fLen])]
  simp [s1, mulP, A1, so, mh2, mh3, ro2, lo2, eq2, eq3, fl1, fl2, M2, A4, -dAdd, -dMul, -fLen]


def methS (i j : Nat) : Stmt := match PySem.Challenge.pw_creelway_k43_whole_late_walks_are_walks.main.body.getD i (.Pass ⟨0, 0, 0, 0⟩) with
  | .ClassDef _ _ _ b _ _ _ _ _ _ _ => b.getD j (.Pass ⟨0, 0, 0, 0⟩)
  | s => s
def initS (i : Nat) : Stmt := match PySem.Challenge.pw_creelway_k43_whole_late_walks_are_walks.main.body.getD i (.Pass ⟨0, 0, 0, 0⟩) with
  | .ClassDef _ _ _ b _ _ _ _ _ _ _ => b.getD 0 (.Pass ⟨0, 0, 0, 0⟩)
  | s => s
def topS (i : Nat) : Stmt := PySem.Challenge.pw_creelway_k43_whole_late_walks_are_walks.main.body.getD i (.Pass ⟨0, 0, 0, 0⟩)
abbrev kk_Road : List (Str × Kd) := [("first", .val), ("entries", .val), ("now", .val)]
theorem knd_Road : (kk_Road.map (·.1)).Nodup := by decide +kernel
abbrev kk_House : List (Str × Kd) := [("by_name", .val), ("done", .own none), ("gone", .own none)]
theorem knd_House : (kk_House.map (·.1)).Nodup := by decide +kernel
theorem kno_House_become : ("become" : Str) ∉ kk_House.map (·.1) := by decide +kernel
theorem kno_House_build : ("build" : Str) ∉ kk_House.map (·.1) := by decide +kernel
theorem kno_House_put : ("put" : Str) ∉ kk_House.map (·.1) := by decide +kernel
theorem kno_House_late : ("late" : Str) ∉ kk_House.map (·.1) := by decide +kernel
theorem kno_House_walk : ("walk" : Str) ∉ kk_House.map (·.1) := by decide +kernel
theorem kno_House_strike : ("strike" : Str) ∉ kk_House.map (·.1) := by decide +kernel
theorem nq_BadCreel : NmOk "BadCreel" := by constructor <;> decide
theorem nq_BadName : NmOk "BadName" := by constructor <;> decide
theorem nq_BadRow : NmOk "BadRow" := by constructor <;> decide
theorem nq_Bare : NmOk "Bare" := by constructor <;> decide
theorem nq_CreelError : NmOk "CreelError" := by constructor <;> decide
theorem nq_Full : NmOk "Full" := by constructor <;> decide
theorem nq_House : NmOk "House" := by constructor <;> decide
theorem nq_LETTERS : NmOk "LETTERS" := by constructor <;> decide
theorem nq_Laid : NmOk "Laid" := by constructor <;> decide
theorem nq_MOST_ROADS : NmOk "MOST_ROADS" := by constructor <;> decide
theorem nq_MOST_SIGNS : NmOk "MOST_SIGNS" := by constructor <;> decide
theorem nq_MOST_STONES : NmOk "MOST_STONES" := by constructor <;> decide
theorem nq_NoEntry : NmOk "NoEntry" := by constructor <;> decide
theorem nq_NoRoad : NmOk "NoRoad" := by constructor <;> decide
theorem nq_NoStone : NmOk "NoStone" := by constructor <;> decide
theorem nq_NotWalk : NmOk "NotWalk" := by constructor <;> decide
theorem nq_Road : NmOk "Road" := by constructor <;> decide
theorem nq_Taken : NmOk "Taken" := by constructor <;> decide
theorem nq_TooMany : NmOk "TooMany" := by constructor <;> decide
theorem nq_TooNear : NmOk "TooNear" := by constructor <;> decide
theorem nq__law_at : NmOk "_law_at" := by constructor <;> decide
theorem nq__law_by : NmOk "_law_by" := by constructor <;> decide
theorem nq__law_cell : NmOk "_law_cell" := by constructor <;> decide
theorem nq__law_count : NmOk "_law_count" := by constructor <;> decide
theorem nq__law_creel : NmOk "_law_creel" := by constructor <;> decide
theorem nq__law_cut : NmOk "_law_cut" := by constructor <;> decide
theorem nq__law_d : NmOk "_law_d" := by constructor <;> decide
theorem nq__law_far_place : NmOk "_law_far_place" := by constructor <;> decide
theorem nq__law_found : NmOk "_law_found" := by constructor <;> decide
theorem nq__law_gone : NmOk "_law_gone" := by constructor <;> decide
theorem nq__law_house : NmOk "_law_house" := by constructor <;> decide
theorem nq__law_k : NmOk "_law_k" := by constructor <;> decide
theorem nq__law_long_row : NmOk "_law_long_row" := by constructor <;> decide
theorem nq__law_many : NmOk "_law_many" := by constructor <;> decide
theorem nq__law_most : NmOk "_law_most" := by constructor <;> decide
theorem nq__law_numbers : NmOk "_law_numbers" := by constructor <;> decide
theorem nq__law_numbers_here : NmOk "_law_numbers_here" := by constructor <;> decide
theorem nq__law_place : NmOk "_law_place" := by constructor <;> decide
theorem nq__law_rest : NmOk "_law_rest" := by constructor <;> decide
theorem nq__law_row : NmOk "_law_row" := by constructor <;> decide
theorem nq__law_row_here : NmOk "_law_row_here" := by constructor <;> decide
theorem nq__law_script : NmOk "_law_script" := by constructor <;> decide
theorem nq__law_seed : NmOk "_law_seed" := by constructor <;> decide
theorem nq__law_start : NmOk "_law_start" := by constructor <;> decide
theorem nq__law_step : NmOk "_law_step" := by constructor <;> decide
theorem nq__law_ten : NmOk "_law_ten" := by constructor <;> decide
theorem nq__law_walk : NmOk "_law_walk" := by constructor <;> decide
theorem nq__law_walks : NmOk "_law_walks" := by constructor <;> decide
theorem nq__law_walks_here : NmOk "_law_walks_here" := by constructor <;> decide
theorem nq_added_to : NmOk "added_to" := by constructor <;> decide
theorem nq_at : NmOk "at" := by constructor <;> decide
theorem nq_behind_entry : NmOk "behind_entry" := by constructor <;> decide
theorem nq_best : NmOk "best" := by constructor <;> decide
theorem nq_by : NmOk "by" := by constructor <;> decide
theorem nq_by_walks : NmOk "by_walks" := by constructor <;> decide
theorem nq_count : NmOk "count" := by constructor <;> decide
theorem nq_creel : NmOk "creel" := by constructor <;> decide
theorem nq_deed : NmOk "deed" := by constructor <;> decide
theorem nq_entries : NmOk "entries" := by constructor <;> decide
theorem nq_entry : NmOk "entry" := by constructor <;> decide
theorem nq_far : NmOk "far" := by constructor <;> decide
theorem nq_first : NmOk "first" := by constructor <;> decide
theorem nq_found : NmOk "found" := by constructor <;> decide
theorem nq_fresh : NmOk "fresh" := by constructor <;> decide
theorem nq_gap : NmOk "gap" := by constructor <;> decide
theorem nq_gone_over : NmOk "gone_over" := by constructor <;> decide
theorem nq_grown : NmOk "grown" := by constructor <;> decide
theorem nq_is_name : NmOk "is_name" := by constructor <;> decide
theorem nq_laid_behind : NmOk "laid_behind" := by constructor <;> decide
theorem nq_left : NmOk "left" := by constructor <;> decide
theorem nq_list_of : NmOk "list_of" := by constructor <;> decide
theorem nq_longest_ripe : NmOk "longest_ripe" := by constructor <;> decide
theorem nq_look_creel : NmOk "look_creel" := by constructor <;> decide
theorem nq_look_row : NmOk "look_row" := by constructor <;> decide
theorem nq_look_walks : NmOk "look_walks" := by constructor <;> decide
theorem nq_many : NmOk "many" := by constructor <;> decide
theorem nq_mark : NmOk "mark" := by constructor <;> decide
theorem nq_mirrored : NmOk "mirrored" := by constructor <;> decide
theorem nq_name : NmOk "name" := by constructor <;> decide
theorem nq_next_place : NmOk "next_place" := by constructor <;> decide
theorem nq_now : NmOk "now" := by constructor <;> decide
theorem nq_offset : NmOk "offset" := by constructor <;> decide
theorem nq_one : NmOk "one" := by constructor <;> decide
theorem nq_other : NmOk "other" := by constructor <;> decide
theorem nq_own : NmOk "own" := by constructor <;> decide
theorem nq_place : NmOk "place" := by constructor <;> decide
theorem nq_put_in : NmOk "put_in" := by constructor <;> decide
theorem nq_road : NmOk "road" := by constructor <;> decide
theorem nq_row : NmOk "row" := by constructor <;> decide
theorem nq_self : NmOk "self" := by constructor <;> decide
theorem nq_share : NmOk "share" := by constructor <;> decide
theorem nq_shortest_ripe : NmOk "shortest_ripe" := by constructor <;> decide
theorem nq_shrunk : NmOk "shrunk" := by constructor <;> decide
theorem nq_sign : NmOk "sign" := by constructor <;> decide
theorem nq_size : NmOk "size" := by constructor <;> decide
theorem nq_stones_of : NmOk "stones_of" := by constructor <;> decide
theorem nq_taken_out : NmOk "taken_out" := by constructor <;> decide
theorem nq_text : NmOk "text" := by constructor <;> decide
theorem nq_trains : NmOk "trains" := by constructor <;> decide
theorem nq_walks : NmOk "walks" := by constructor <;> decide
abbrev st_look_row : Stmt := topS 19
abbrev N_look_row : List Str := ["row", "at"]
theorem sc_look_row : FnScope N_look_row ["row"] (defScope st_look_row) := ⟨rfl, rfl, rfl, by decide +kernel, rfl, by decide +kernel, by decide +kernel⟩
theorem nd_look_row : N_look_row.Nodup := sc_look_row.nd
theorem ok_look_row {P : Program} {w : World} {K : PySem.W.Frag} {mg : Str → Option Value} {base : Heap} {cl : Cl} {fa : Addr} {fd : FuncData} (B : Bl mg) (hK : cl.K = K) (F : Fun K "look_row" "look_row" st_look_row fa fd) (gm : mg "look_row" = some (.ref fa)) (bn : Binds K fd ["row"] []) {t_MOST_STONES : Tok} (C_MOST_STONES : mg "MOST_STONES" = some (.int 60 t_MOST_STONES)) (X_BadRow : XAt P w K mg base cl "BadRow" 1) (X_TooMany : XPlain K mg cl "TooMany") : Fi P w K mg base cl "look_row" 3 [false] .val f_look_row := by
  refine def_ok (ls := [.val]) (m := m_look_row) (ks' := [.bor, .val]) F sc_look_row gm bn rfl rfl rfl (.inl rfl) (fun cdv A outer s H E h0 s0 b0 hr => ?_)
  exact (sb_cons (ss_if (st_cmp op_gt opv_gt nox_gt ((sf_Len B (sa_b (se_varB (i := 0) (hq := nq_row)) sa_nil))).valBor ((se_globI C_MOST_STONES nq_MOST_STONES)).valBor)
  (sb_cons (ss_raise rfl X_TooMany nq_TooMany)
  sb_nil)
  sb_nil)
  (sb_cons (ss_for (passes_of rfl) rfl (si_range2 B.range (se_int).valBor ((sf_Len B (sa_b (se_varB (i := 0) (hq := nq_row)) sa_nil))).valBor) (sg_name nd_look_row) (fun s => (sb_cons (ss_if (st_cmp op_le opv_le nox_le ((se_ix (se_varB (i := 0) (hq := nq_row)) ((se_var (i := 1) (hq := nq_at))).valBor)).valBor ((se_ix (se_varB (i := 0) (hq := nq_row)) ((se_sub ((se_var (i := 1) (hq := nq_at))).valBor (se_int).valBor)).valBor)).valBor)
  (sb_cons (ss_raiseAt rfl X_BadRow (hr.mono (by decide)) (se_var (i := 1) (hq := nq_at)) nq_BadRow)
  sb_nil)
  sb_nil)
  sb_nil)) (by decide))
  sb_nil))
abbrev st_mirrored : Stmt := topS 20
abbrev N_mirrored : List Str := ["row", "place"]
theorem sc_mirrored : FnScope N_mirrored ["row"] (defScope st_mirrored) := ⟨rfl, rfl, rfl, by decide +kernel, rfl, by decide +kernel, by decide +kernel⟩
theorem nd_mirrored : N_mirrored.Nodup := sc_mirrored.nd
theorem ok_mirrored {P : Program} {w : World} {K : PySem.W.Frag} {mg : Str → Option Value} {base : Heap} {cl : Cl} {fa : Addr} {fd : FuncData} (B : Bl mg) (hK : cl.K = K) (F : Fun K "mirrored" "mirrored" st_mirrored fa fd) (gm : mg "mirrored" = some (.ref fa)) (bn : Binds K fd ["row"] []) (F_look_row : Fi P w K mg base cl "look_row" 3 [false] .val f_look_row) : Fi P w K mg base cl "mirrored" 4 [false] (.own none) f_mirrored := by
  refine def_ok (ls := [.val]) (m := m_mirrored) (ks' := []) F sc_mirrored gm bn rfl rfl rfl (.inr rfl) (fun cdv A outer s H E h0 s0 b0 hr => ?_)
  exact (sb_cons (ss_expr (se_call F_look_row (hr.mono (by decide)) (sa_b (se_varB (i := 0) (hq := nq_row)) sa_nil) nq_look_row))
  (sb_cons (ss_ret (se_comp [("place", 1)] rfl nd_mirrored (si_reversed B.reversed (sq_bor (se_varB (i := 0) (hq := nq_row)))) (blkOk_by (N := N_mirrored) (sc := defScope st_mirrored) (own := [("place", 1)]) (by decide +kernel)) (by decide) (by decide) (fun _ _ _ _ _ => sg_name nd_mirrored) (fun _ _ _ _ _ => sp_nil) (fun _ _ _ _ _ => (se_neg ((se_var (i := 1) (hq := nq_place))).valBor))))
  sb_nil))
abbrev st_look_creel : Stmt := topS 22
abbrev N_look_creel : List Str := ["creel"]
theorem sc_look_creel : FnScope N_look_creel ["creel"] (defScope st_look_creel) := ⟨rfl, rfl, rfl, by decide +kernel, rfl, by decide +kernel, by decide +kernel⟩
theorem nd_look_creel : N_look_creel.Nodup := sc_look_creel.nd
theorem ok_look_creel {P : Program} {w : World} {K : PySem.W.Frag} {mg : Str → Option Value} {base : Heap} {cl : Cl} {fa : Addr} {fd : FuncData} (B : Bl mg) (hK : cl.K = K) (F : Fun K "look_creel" "look_creel" st_look_creel fa fd) (gm : mg "look_creel" = some (.ref fa)) (bn : Binds K fd ["creel"] []) (X_BadCreel : XPlain K mg cl "BadCreel") : Fi P w K mg base cl "look_creel" 1 [false] .val f_look_creel := by
  refine def_ok (ls := []) (m := m_look_creel) (ks' := [.bor]) F sc_look_creel gm bn rfl rfl rfl (.inl rfl) (fun cdv A outer s H E h0 s0 b0 hr => ?_)
  exact (sb_cons (ss_if (st_cmp op_lt opv_lt nox_lt (se_varB (i := 0) (hq := nq_creel)) (se_int).valBor)
  (sb_cons (ss_raise rfl X_BadCreel nq_BadCreel)
  sb_nil)
  sb_nil)
  sb_nil)
abbrev st_share : Stmt := topS 24
abbrev N_share : List Str := ["trains", "size", "own", "offset"]
theorem sc_share : FnScope N_share ["trains", "size"] (defScope st_share) := ⟨rfl, rfl, rfl, by decide +kernel, rfl, by decide +kernel, by decide +kernel⟩
theorem nd_share : N_share.Nodup := sc_share.nd
theorem ok_share {P : Program} {w : World} {K : PySem.W.Frag} {mg : Str → Option Value} {base : Heap} {cl : Cl} {fa : Addr} {fd : FuncData} (B : Bl mg) (hK : cl.K = K) (F : Fun K "share" "share" st_share fa fd) (gm : mg "share" = some (.ref fa)) (bn : Binds K fd ["trains", "size"] [])  : Fi P w K mg base cl "share" 1 [false, false] .val f_share := by
  refine def_ok (ls := [.val, .val]) (m := m_share) (ks' := []) F sc_share gm bn rfl rfl rfl (.inl rfl) (fun cdv A outer s H E h0 s0 b0 hr => ?_)
  exact (sb_cons (ss_ret (sf_Sum B (sa_b (SE.toBor (se_comp [("own", 2), ("offset", 3)] rfl nd_share (si_it (sq_bor (se_varB (i := 0) (hq := nq_trains)))) (blkOk_by (N := N_share) (sc := defScope st_share) (own := [("own", 2), ("offset", 3)]) (by decide +kernel)) (by decide) (by decide) (fun _ _ _ _ _ => sg_tup rfl (sgs_cons nd_share (sgs_cons nd_share sgs_nil))) (fun _ _ _ _ _ => sp_nil) (fun _ _ _ _ _ => (sf_Min2 B (sa_b (se_varB (i := 1) (hq := nq_size)) (sa_b ((se_var (i := 2) (hq := nq_own))).valBor sa_nil)))))) sa_nil)))
  sb_nil)
abbrev st_mark : Stmt := topS 25
abbrev N_mark : List Str := ["trains", "size", "place"]
theorem sc_mark : FnScope N_mark ["trains", "size", "place"] (defScope st_mark) := ⟨rfl, rfl, rfl, by decide +kernel, rfl, by decide +kernel, by decide +kernel⟩
theorem nd_mark : N_mark.Nodup := sc_mark.nd
theorem ok_mark {P : Program} {w : World} {K : PySem.W.Frag} {mg : Str → Option Value} {base : Heap} {cl : Cl} {fa : Addr} {fd : FuncData} (B : Bl mg) (hK : cl.K = K) (F : Fun K "mark" "mark" st_mark fa fd) (gm : mg "mark" = some (.ref fa)) (bn : Binds K fd ["trains", "size", "place"] []) (F_share : Fi P w K mg base cl "share" 1 [false, false] .val f_share) : Fi P w K mg base cl "mark" 2 [false, false, false] .val f_mark := by
  refine def_ok (ls := []) (m := m_mark) (ks' := []) F sc_mark gm bn rfl rfl rfl (.inl rfl) (fun cdv A outer s H E h0 s0 b0 hr => ?_)
  exact (sb_cons (ss_ret (se_sub (se_varB (i := 2) (hq := nq_place)) ((se_mul (se_int).valBor ((se_call F_share (hr.mono (by decide)) (sa_b (se_varB (i := 0) (hq := nq_trains)) (sa_b (se_varB (i := 1) (hq := nq_size)) sa_nil)) nq_share)).valBor)).toBor))
  sb_nil)
abbrev st_longest_ripe : Stmt := topS 26
abbrev N_longest_ripe : List Str := ["found", "place", "best", "size", "offset"]
theorem sc_longest_ripe : FnScope N_longest_ripe ["found", "place"] (defScope st_longest_ripe) := ⟨rfl, rfl, rfl, by decide +kernel, rfl, by decide +kernel, by decide +kernel⟩
theorem nd_longest_ripe : N_longest_ripe.Nodup := sc_longest_ripe.nd
theorem ok_longest_ripe {P : Program} {w : World} {K : PySem.W.Frag} {mg : Str → Option Value} {base : Heap} {cl : Cl} {fa : Addr} {fd : FuncData} (B : Bl mg) (hK : cl.K = K) (F : Fun K "longest_ripe" "longest_ripe" st_longest_ripe fa fd) (gm : mg "longest_ripe" = some (.ref fa)) (bn : Binds K fd ["found", "place"] []) (F_mark : Fi P w K mg base cl "mark" 2 [false, false, false] .val f_mark) : Fi P w K mg base cl "longest_ripe" 3 [false, false] .val f_longest_ripe := by
  refine def_ok (ls := [.val, .val, .val]) (m := m_longest_ripe) (ks' := []) F sc_longest_ripe gm bn rfl rfl rfl (.inl rfl) (fun cdv A outer s H E h0 s0 b0 hr => ?_)
  exact (sb_cons (ss_set (i := 2) nd_longest_ripe se_int)
  (sb_cons (ss_for (passes_of rfl) rfl (si_it (sq_par (i := 0) (hq := nq_found))) (sg_tup rfl (sgs_cons nd_longest_ripe (sgs_cons nd_longest_ripe sgs_nil))) (fun s => (sb_cons (ss_if (st_of (sw_and (st_cmp op_gt opv_gt nox_gt ((se_var (i := 3) (hq := nq_size))).valBor ((se_var (i := 2) (hq := nq_best))).valBor) (sw_and1 (st_cmp (op_eqD hr.units) opv_eq nox_eq ((se_var (i := 4) (hq := nq_offset))).valBor ((se_call F_mark (hr.mono (by decide)) (sa_b (se_varB (i := 0) (hq := nq_found)) (sa_b ((se_var (i := 3) (hq := nq_size))).valBor (sa_b (se_varB (i := 1) (hq := nq_place)) sa_nil))) nq_mark)).valBor))))
  (sb_cons (ss_set (i := 2) nd_longest_ripe (se_var (i := 3) (hq := nq_size)))
  sb_nil)
  sb_nil)
  sb_nil)) (by decide))
  (sb_cons (ss_ret (se_var (i := 2) (hq := nq_best)))
  sb_nil)))
abbrev st_grown : Stmt := topS 27
abbrev N_grown : List Str := ["found", "place", "size", "fresh", "many"]
theorem sc_grown : FnScope N_grown ["found", "place"] (defScope st_grown) := ⟨rfl, rfl, rfl, by decide +kernel, rfl, by decide +kernel, by decide +kernel⟩
theorem nd_grown : N_grown.Nodup := sc_grown.nd
theorem ok_grown {P : Program} {w : World} {K : PySem.W.Frag} {mg : Str → Option Value} {base : Heap} {cl : Cl} {fa : Addr} {fd : FuncData} (B : Bl mg) (hK : cl.K = K) (F : Fun K "grown" "grown" st_grown fa fd) (gm : mg "grown" = some (.ref fa)) (bn : Binds K fd ["found", "place"] []) (F_longest_ripe : Fi P w K mg base cl "longest_ripe" 3 [false, false] .val f_longest_ripe) (F_mark : Fi P w K mg base cl "mark" 2 [false, false, false] .val f_mark) (F_share : Fi P w K mg base cl "share" 1 [false, false] .val f_share) : Fi P w K mg base cl "grown" 4 [false, false] (.own none) f_grown := by
  refine def_ok (ls := [.val, .own none, .val]) (m := m_grown) (ks' := []) F sc_grown gm bn rfl rfl rfl (.inr rfl) (fun cdv A outer s H E h0 s0 b0 hr => ?_)
  exact (sb_cons (ss_set (i := 2) nd_grown (se_call F_longest_ripe (hr.mono (by decide)) (sa_b (se_varB (i := 0) (hq := nq_found)) (sa_b ((se_sub (se_varB (i := 1) (hq := nq_place)) (se_int).valBor)).valBor sa_nil)) nq_longest_ripe))
  (sb_cons (ss_set (i := 3) nd_grown (sf_List B (sa_b (se_varB (i := 0) (hq := nq_found)) sa_nil)))
  (sb_cons (ss_if (st_cmp op_gt opv_gt nox_gt ((se_var (i := 2) (hq := nq_size))).valBor (se_int).valBor)
  (sb_cons (ss_remove hr.units65 (i := 3) (hq := nq_fresh) (se_tup (n := 2) (sa_v (se_var (i := 2) (hq := nq_size)) (sa_v (se_call F_mark (hr.mono (by decide)) (sa_b (se_varB (i := 0) (hq := nq_found)) (sa_b ((se_var (i := 2) (hq := nq_size))).valBor (sa_b ((se_sub (se_varB (i := 1) (hq := nq_place)) (se_int).valBor)).valBor sa_nil))) nq_mark) sa_nil))))
  sb_nil)
  sb_nil)
  (sb_cons (ss_set (i := 4) nd_grown ((se_add ((se_add ((se_call F_share (hr.mono (by decide)) (sa_b (se_varB (i := 3) (hq := nq_fresh)) (sa_b ((se_add ((se_var (i := 2) (hq := nq_size))).valBor (se_int).valBor)).toBor sa_nil)) nq_share)).valBor ((se_var (i := 2) (hq := nq_size))).valBor)).toBor (se_int).valBor)).toVal)
  (sb_cons (ss_append (i := 3) (hq := nq_fresh) (se_tup (n := 2) (sa_v ((se_add ((se_var (i := 2) (hq := nq_size))).valBor (se_int).valBor)).toVal (sa_v (se_sub (se_varB (i := 1) (hq := nq_place)) ((se_mul (se_int).valBor ((se_var (i := 4) (hq := nq_many))).valBor)).toBor) sa_nil))))
  (sb_cons (ss_retV (i := 3) (hq := nq_fresh))
  sb_nil))))))
abbrev st_list_of : Stmt := topS 28
abbrev N_list_of : List Str := ["row", "found", "place"]
theorem sc_list_of : FnScope N_list_of ["row"] (defScope st_list_of) := ⟨rfl, rfl, rfl, by decide +kernel, rfl, by decide +kernel, by decide +kernel⟩
theorem nd_list_of : N_list_of.Nodup := sc_list_of.nd
theorem ok_list_of {P : Program} {w : World} {K : PySem.W.Frag} {mg : Str → Option Value} {base : Heap} {cl : Cl} {fa : Addr} {fd : FuncData} (B : Bl mg) (hK : cl.K = K) (F : Fun K "list_of" "list_of" st_list_of fa fd) (gm : mg "list_of" = some (.ref fa)) (bn : Binds K fd ["row"] []) (F_grown : Fi P w K mg base cl "grown" 4 [false, false] (.own none) f_grown) : Fi P w K mg base cl "list_of" 5 [false] (.own none) f_list_of := by
  refine def_ok (ls := [.val, .val]) (m := m_list_of) (ks' := []) F sc_list_of gm bn rfl rfl rfl (.inr rfl) (fun cdv A outer s H E h0 s0 b0 hr => ?_)
  exact (sb_cons (ss_set (i := 1) nd_list_of ((se_lst (n := 0) sa_nil)).toVal)
  (sb_cons (ss_for (passes_of rfl) rfl (si_it (sq_par (i := 0) (hq := nq_row))) (sg_name nd_list_of) (fun s => (sb_cons (ss_set (i := 1) nd_list_of ((se_call F_grown (hr.mono (by decide)) (sa_b ((se_var (i := 1) (hq := nq_found))).valBor (sa_b ((se_var (i := 2) (hq := nq_place))).valBor sa_nil)) nq_grown)).toVal)
  sb_nil)) (by decide))
  (sb_cons (ss_ret (sf_Sorted B (sa_b ((se_var (i := 1) (hq := nq_found))).valBor sa_nil)))
  sb_nil)))
abbrev st_next_place : Stmt := topS 29
abbrev N_next_place : List Str := ["left", "size", "offset"]
theorem sc_next_place : FnScope N_next_place ["left"] (defScope st_next_place) := ⟨rfl, rfl, rfl, by decide +kernel, rfl, by decide +kernel, by decide +kernel⟩
theorem nd_next_place : N_next_place.Nodup := sc_next_place.nd
theorem ok_next_place {P : Program} {w : World} {K : PySem.W.Frag} {mg : Str → Option Value} {base : Heap} {cl : Cl} {fa : Addr} {fd : FuncData} (B : Bl mg) (hK : cl.K = K) (F : Fun K "next_place" "next_place" st_next_place fa fd) (gm : mg "next_place" = some (.ref fa)) (bn : Binds K fd ["left"] []) (F_share : Fi P w K mg base cl "share" 1 [false, false] .val f_share) : Fi P w K mg base cl "next_place" 2 [false] .val f_next_place := by
  refine def_ok (ls := [.val, .val]) (m := m_next_place) (ks' := []) F sc_next_place gm bn rfl rfl rfl (.inl rfl) (fun cdv A outer s H E h0 s0 b0 hr => ?_)
  exact (sb_cons (ss_ret (sf_Max1 B (sa_b (SE.toBor (se_comp [("size", 1), ("offset", 2)] rfl nd_next_place (si_it (sq_bor (se_varB (i := 0) (hq := nq_left)))) (blkOk_by (N := N_next_place) (sc := defScope st_next_place) (own := [("size", 1), ("offset", 2)]) (by decide +kernel)) (by decide) (by decide) (fun _ _ _ _ _ => sg_tup rfl (sgs_cons nd_next_place (sgs_cons nd_next_place sgs_nil))) (fun _ _ _ _ _ => sp_nil) (fun _ _ _ _ _ => ((se_add ((se_var (i := 2) (hq := nq_offset))).valBor ((se_mul (se_int).valBor ((se_call F_share (hr.mono (by decide)) (sa_b (se_varB (i := 0) (hq := nq_left)) (sa_b ((se_var (i := 1) (hq := nq_size))).valBor sa_nil)) nq_share)).valBor)).toBor)).toVal))) sa_nil)))
  sb_nil)
abbrev st_shortest_ripe : Stmt := topS 30
abbrev N_shortest_ripe : List Str := ["left", "place", "size", "offset"]
theorem sc_shortest_ripe : FnScope N_shortest_ripe ["left", "place"] (defScope st_shortest_ripe) := ⟨rfl, rfl, rfl, by decide +kernel, rfl, by decide +kernel, by decide +kernel⟩
theorem nd_shortest_ripe : N_shortest_ripe.Nodup := sc_shortest_ripe.nd
theorem ok_shortest_ripe {P : Program} {w : World} {K : PySem.W.Frag} {mg : Str → Option Value} {base : Heap} {cl : Cl} {fa : Addr} {fd : FuncData} (B : Bl mg) (hK : cl.K = K) (F : Fun K "shortest_ripe" "shortest_ripe" st_shortest_ripe fa fd) (gm : mg "shortest_ripe" = some (.ref fa)) (bn : Binds K fd ["left", "place"] []) (F_mark : Fi P w K mg base cl "mark" 2 [false, false, false] .val f_mark) : Fi P w K mg base cl "shortest_ripe" 3 [false, false] .val f_shortest_ripe := by
  refine def_ok (ls := [.val, .val]) (m := m_shortest_ripe) (ks' := []) F sc_shortest_ripe gm bn rfl rfl rfl (.inl rfl) (fun cdv A outer s H E h0 s0 b0 hr => ?_)
  exact (sb_cons (ss_ret (sf_Min1 B (sa_b (SE.toBor (se_comp [("size", 2), ("offset", 3)] rfl nd_shortest_ripe (si_it (sq_bor (se_varB (i := 0) (hq := nq_left)))) (blkOk_by (N := N_shortest_ripe) (sc := defScope st_shortest_ripe) (own := [("size", 2), ("offset", 3)]) (by decide +kernel)) (by decide) (by decide) (fun _ _ _ _ _ => sg_tup rfl (sgs_cons nd_shortest_ripe (sgs_cons nd_shortest_ripe sgs_nil))) (fun _ _ _ _ _ => (sp_one (st_cmp (op_eqD hr.units) opv_eq nox_eq ((se_var (i := 3) (hq := nq_offset))).valBor ((se_call F_mark (hr.mono (by decide)) (sa_b (se_varB (i := 0) (hq := nq_left)) (sa_b ((se_var (i := 2) (hq := nq_size))).valBor (sa_b (se_varB (i := 1) (hq := nq_place)) sa_nil))) nq_mark)).valBor))) (fun _ _ _ _ _ => (se_var (i := 2) (hq := nq_size))))) sa_nil)))
  sb_nil)
abbrev st_shrunk : Stmt := topS 31
abbrev N_shrunk : List Str := ["left", "place", "size", "fresh", "many"]
theorem sc_shrunk : FnScope N_shrunk ["left", "place"] (defScope st_shrunk) := ⟨rfl, rfl, rfl, by decide +kernel, rfl, by decide +kernel, by decide +kernel⟩
theorem nd_shrunk : N_shrunk.Nodup := sc_shrunk.nd
theorem ok_shrunk {P : Program} {w : World} {K : PySem.W.Frag} {mg : Str → Option Value} {base : Heap} {cl : Cl} {fa : Addr} {fd : FuncData} (B : Bl mg) (hK : cl.K = K) (F : Fun K "shrunk" "shrunk" st_shrunk fa fd) (gm : mg "shrunk" = some (.ref fa)) (bn : Binds K fd ["left", "place"] []) (F_shortest_ripe : Fi P w K mg base cl "shortest_ripe" 3 [false, false] .val f_shortest_ripe) (F_mark : Fi P w K mg base cl "mark" 2 [false, false, false] .val f_mark) (F_share : Fi P w K mg base cl "share" 1 [false, false] .val f_share) : Fi P w K mg base cl "shrunk" 4 [false, false] (.own none) f_shrunk := by
  refine def_ok (ls := [.val, .own none, .val]) (m := m_shrunk) (ks' := []) F sc_shrunk gm bn rfl rfl rfl (.inr rfl) (fun cdv A outer s H E h0 s0 b0 hr => ?_)
  exact (sb_cons (ss_set (i := 2) nd_shrunk (se_call F_shortest_ripe (hr.mono (by decide)) (sa_b (se_varB (i := 0) (hq := nq_left)) (sa_b (se_varB (i := 1) (hq := nq_place)) sa_nil)) nq_shortest_ripe))
  (sb_cons (ss_set (i := 3) nd_shrunk (sf_List B (sa_b (se_varB (i := 0) (hq := nq_left)) sa_nil)))
  (sb_cons (ss_remove hr.units65 (i := 3) (hq := nq_fresh) (se_tup (n := 2) (sa_v (se_var (i := 2) (hq := nq_size)) (sa_v (se_call F_mark (hr.mono (by decide)) (sa_b (se_varB (i := 0) (hq := nq_left)) (sa_b ((se_var (i := 2) (hq := nq_size))).valBor (sa_b (se_varB (i := 1) (hq := nq_place)) sa_nil))) nq_mark) sa_nil))))
  (sb_cons (ss_if (st_cmp op_gt opv_gt nox_gt ((se_var (i := 2) (hq := nq_size))).valBor (se_int).valBor)
  (sb_cons (ss_set (i := 4) nd_shrunk (se_sub ((se_add ((se_call F_share (hr.mono (by decide)) (sa_b (se_varB (i := 3) (hq := nq_fresh)) (sa_b ((se_sub ((se_var (i := 2) (hq := nq_size))).valBor (se_int).valBor)).valBor sa_nil)) nq_share)).valBor ((se_var (i := 2) (hq := nq_size))).valBor)).toBor (se_int).valBor))
  (sb_cons (ss_append (i := 3) (hq := nq_fresh) (se_tup (n := 2) (sa_v (se_sub ((se_var (i := 2) (hq := nq_size))).valBor (se_int).valBor) (sa_v (se_sub ((se_sub (se_varB (i := 1) (hq := nq_place)) (se_int).valBor)).valBor ((se_mul (se_int).valBor ((se_var (i := 4) (hq := nq_many))).valBor)).toBor) sa_nil))))
  sb_nil))
  sb_nil)
  (sb_cons (ss_retV (i := 3) (hq := nq_fresh))
  sb_nil)))))
abbrev st_stones_of : Stmt := topS 32
abbrev N_stones_of : List Str := ["left", "found", "place"]
theorem sc_stones_of : FnScope N_stones_of ["left"] (defScope st_stones_of) := ⟨rfl, rfl, rfl, by decide +kernel, rfl, by decide +kernel, by decide +kernel⟩
theorem nd_stones_of : N_stones_of.Nodup := sc_stones_of.nd
theorem ok_stones_of {P : Program} {w : World} {K : PySem.W.Frag} {mg : Str → Option Value} {base : Heap} {cl : Cl} {fa : Addr} {fd : FuncData} (B : Bl mg) (hK : cl.K = K) (F : Fun K "stones_of" "stones_of" st_stones_of fa fd) (gm : mg "stones_of" = some (.ref fa)) (bn : Binds K fd ["left"] []) (F_next_place : Fi P w K mg base cl "next_place" 2 [false] .val f_next_place) (F_shrunk : Fi P w K mg base cl "shrunk" 4 [false, false] (.own none) f_shrunk) : Fi P w K mg base cl "stones_of" 5 [true] (.own none) f_stones_of := by
  refine def_ok (ls := [.own none, .val]) (m := m_stones_of) (ks' := []) F sc_stones_of gm bn rfl rfl rfl (.inr rfl) (fun cdv A outer s H E h0 s0 b0 hr => ?_)
  exact (sb_cons (ss_set (i := 1) nd_stones_of (se_lst (n := 0) sa_nil))
  (sb_cons (ss_while WB (passes_of rfl) (st_cmp (op_neD hr.units) opv_ne nox_ne ((se_var (i := 0) (hq := nq_left))).valBor ((se_lst (n := 0) sa_nil)).toBor)
  (sb_cons (ss_set (i := 2) nd_stones_of (se_call F_next_place (hr.mono (by decide)) (sa_b ((se_var (i := 0) (hq := nq_left))).valBor sa_nil) nq_next_place))
  (sb_cons (ss_append (i := 1) (hq := nq_found) (se_var (i := 2) (hq := nq_place)))
  (sb_cons (ss_set (i := 0) nd_stones_of ((se_call F_shrunk (hr.mono (by decide)) (sa_b ((se_var (i := 0) (hq := nq_left))).valBor (sa_b ((se_var (i := 2) (hq := nq_place))).valBor sa_nil)) nq_shrunk)).toVal)
  sb_nil))))
  (sb_cons (ss_ret (se_revL (se_varB (i := 1) (hq := nq_found))))
  sb_nil)))
abbrev st_look_walks : Stmt := topS 34
abbrev N_look_walks : List Str := ["walks", "creel", "count"]
theorem sc_look_walks : FnScope N_look_walks ["walks"] (defScope st_look_walks) := ⟨rfl, rfl, rfl, by decide +kernel, rfl, by decide +kernel, by decide +kernel⟩
theorem nd_look_walks : N_look_walks.Nodup := sc_look_walks.nd
theorem ok_look_walks {P : Program} {w : World} {K : PySem.W.Frag} {mg : Str → Option Value} {base : Heap} {cl : Cl} {fa : Addr} {fd : FuncData} (B : Bl mg) (hK : cl.K = K) (F : Fun K "look_walks" "look_walks" st_look_walks fa fd) (gm : mg "look_walks" = some (.ref fa)) (bn : Binds K fd ["walks"] []) (F_look_creel : Fi P w K mg base cl "look_creel" 1 [false] .val f_look_creel) : Fi P w K mg base cl "look_walks" 2 [false] .val f_look_walks := by
  refine def_ok (ls := [.val, .val]) (m := m_look_walks) (ks' := [.bor, .val, .val]) F sc_look_walks gm bn rfl rfl rfl (.inl rfl) (fun cdv A outer s H E h0 s0 b0 hr => ?_)
  exact (sb_cons (ss_for (passes_of rfl) rfl (si_it (sq_par (i := 0) (hq := nq_walks))) (sg_tup rfl (sgs_cons nd_look_walks (sgs_cons nd_look_walks sgs_nil))) (fun s => (sb_cons (ss_expr (se_call F_look_creel (hr.mono (by decide)) (sa_b ((se_var (i := 1) (hq := nq_creel))).valBor sa_nil) nq_look_creel))
  sb_nil)) (by decide))
  sb_nil)
abbrev st_by_walks : Stmt := topS 35
abbrev N_by_walks : List Str := ["walks", "size", "creel", "count"]
theorem sc_by_walks : FnScope N_by_walks ["walks", "size"] (defScope st_by_walks) := ⟨rfl, rfl, rfl, by decide +kernel, rfl, by decide +kernel, by decide +kernel⟩
theorem nd_by_walks : N_by_walks.Nodup := sc_by_walks.nd
theorem ok_by_walks {P : Program} {w : World} {K : PySem.W.Frag} {mg : Str → Option Value} {base : Heap} {cl : Cl} {fa : Addr} {fd : FuncData} (B : Bl mg) (hK : cl.K = K) (F : Fun K "by_walks" "by_walks" st_by_walks fa fd) (gm : mg "by_walks" = some (.ref fa)) (bn : Binds K fd ["walks", "size"] [])  : Fi P w K mg base cl "by_walks" 1 [false, false] .val f_by_walks := by
  refine def_ok (ls := [.val, .val]) (m := m_by_walks) (ks' := []) F sc_by_walks gm bn rfl rfl rfl (.inl rfl) (fun cdv A outer s H E h0 s0 b0 hr => ?_)
  exact (sb_cons (ss_ret (sf_Sum B (sa_b (SE.toBor (se_comp [("creel", 2), ("count", 3)] rfl nd_by_walks (si_it (sq_bor (se_varB (i := 0) (hq := nq_walks)))) (blkOk_by (N := N_by_walks) (sc := defScope st_by_walks) (own := [("creel", 2), ("count", 3)]) (by decide +kernel)) (by decide) (by decide) (fun _ _ _ _ _ => sg_tup rfl (sgs_cons nd_by_walks (sgs_cons nd_by_walks sgs_nil))) (fun _ _ _ _ _ => sp_nil) (fun _ _ _ _ _ => ((se_mul ((se_var (i := 3) (hq := nq_count))).valBor ((sf_Min2 B (sa_b ((se_var (i := 2) (hq := nq_creel))).valBor (sa_b (se_varB (i := 1) (hq := nq_size)) sa_nil)))).valBor)).toVal))) sa_nil)))
  sb_nil)
abbrev st_added_to : Stmt := topS 36
abbrev N_added_to : List Str := ["found", "walks", "size", "offset"]
theorem sc_added_to : FnScope N_added_to ["found", "walks"] (defScope st_added_to) := ⟨rfl, rfl, rfl, by decide +kernel, rfl, by decide +kernel, by decide +kernel⟩
theorem nd_added_to : N_added_to.Nodup := sc_added_to.nd
theorem ok_added_to {P : Program} {w : World} {K : PySem.W.Frag} {mg : Str → Option Value} {base : Heap} {cl : Cl} {fa : Addr} {fd : FuncData} (B : Bl mg) (hK : cl.K = K) (F : Fun K "added_to" "added_to" st_added_to fa fd) (gm : mg "added_to" = some (.ref fa)) (bn : Binds K fd ["found", "walks"] []) (F_by_walks : Fi P w K mg base cl "by_walks" 1 [false, false] .val f_by_walks) : Fi P w K mg base cl "added_to" 2 [false, false] (.own none) f_added_to := by
  refine def_ok (ls := [.val, .val]) (m := m_added_to) (ks' := []) F sc_added_to gm bn rfl rfl rfl (.inr rfl) (fun cdv A outer s H E h0 s0 b0 hr => ?_)
  exact (sb_cons (ss_ret (sf_Sorted B (sa_b (SE.toBor (se_comp [("size", 2), ("offset", 3)] rfl nd_added_to (si_it (sq_bor (se_varB (i := 0) (hq := nq_found)))) (blkOk_by (N := N_added_to) (sc := defScope st_added_to) (own := [("size", 2), ("offset", 3)]) (by decide +kernel)) (by decide) (by decide) (fun _ _ _ _ _ => sg_tup rfl (sgs_cons nd_added_to (sgs_cons nd_added_to sgs_nil))) (fun _ _ _ _ _ => sp_nil) (fun _ _ _ _ _ => (se_tup (n := 2) (sa_v (se_var (i := 2) (hq := nq_size)) (sa_v ((se_add ((se_var (i := 3) (hq := nq_offset))).valBor ((se_call F_by_walks (hr.mono (by decide)) (sa_b (se_varB (i := 1) (hq := nq_walks)) (sa_b ((se_var (i := 2) (hq := nq_size))).valBor sa_nil)) nq_by_walks)).valBor)).toVal sa_nil)))))) sa_nil)))
  sb_nil)
abbrev st_far : Stmt := topS 37
abbrev N_far : List Str := ["row", "walks"]
theorem sc_far : FnScope N_far ["row", "walks"] (defScope st_far) := ⟨rfl, rfl, rfl, by decide +kernel, rfl, by decide +kernel, by decide +kernel⟩
theorem nd_far : N_far.Nodup := sc_far.nd
theorem ok_far {P : Program} {w : World} {K : PySem.W.Frag} {mg : Str → Option Value} {base : Heap} {cl : Cl} {fa : Addr} {fd : FuncData} (B : Bl mg) (hK : cl.K = K) (F : Fun K "far" "far" st_far fa fd) (gm : mg "far" = some (.ref fa)) (bn : Binds K fd ["row", "walks"] []) (F_look_row : Fi P w K mg base cl "look_row" 3 [false] .val f_look_row) (F_look_walks : Fi P w K mg base cl "look_walks" 2 [false] .val f_look_walks) (F_list_of : Fi P w K mg base cl "list_of" 5 [false] (.own none) f_list_of) (F_added_to : Fi P w K mg base cl "added_to" 2 [false, false] (.own none) f_added_to) (F_stones_of : Fi P w K mg base cl "stones_of" 5 [true] (.own none) f_stones_of) : Fi P w K mg base cl "far" 6 [false, false] (.own none) f_far := by
  refine def_ok (ls := []) (m := m_far) (ks' := []) F sc_far gm bn rfl rfl rfl (.inr rfl) (fun cdv A outer s H E h0 s0 b0 hr => ?_)
  exact (sb_cons (ss_expr (se_call F_look_row (hr.mono (by decide)) (sa_b (se_varB (i := 0) (hq := nq_row)) sa_nil) nq_look_row))
  (sb_cons (ss_expr (se_call F_look_walks (hr.mono (by decide)) (sa_b (se_varB (i := 1) (hq := nq_walks)) sa_nil) nq_look_walks))
  (sb_cons (ss_ret (se_call F_stones_of (hr.mono (by decide)) (sa_v ((se_call F_added_to (hr.mono (by decide)) (sa_b ((se_call F_list_of (hr.mono (by decide)) (sa_b (se_varB (i := 0) (hq := nq_row)) sa_nil) nq_list_of)).toBor (sa_b (se_varB (i := 1) (hq := nq_walks)) sa_nil)) nq_added_to)).toVal sa_nil) nq_stones_of))
  sb_nil)))
abbrev st_laid_behind : Stmt := topS 39
abbrev N_laid_behind : List Str := ["one", "other", "gap", "by", "place"]
theorem sc_laid_behind : FnScope N_laid_behind ["one", "other", "gap"] (defScope st_laid_behind) := ⟨rfl, rfl, rfl, by decide +kernel, rfl, by decide +kernel, by decide +kernel⟩
theorem nd_laid_behind : N_laid_behind.Nodup := sc_laid_behind.nd
theorem ok_laid_behind {P : Program} {w : World} {K : PySem.W.Frag} {mg : Str → Option Value} {base : Heap} {cl : Cl} {fa : Addr} {fd : FuncData} (B : Bl mg) (hK : cl.K = K) (F : Fun K "laid_behind" "laid_behind" st_laid_behind fa fd) (gm : mg "laid_behind" = some (.ref fa)) (bn : Binds K fd ["one", "other", "gap"] []) {t_MOST_STONES : Tok} (C_MOST_STONES : mg "MOST_STONES" = some (.int 60 t_MOST_STONES)) (X_Bare : XPlain K mg cl "Bare") (X_TooMany : XPlain K mg cl "TooMany") (X_TooNear : XPlain K mg cl "TooNear") : Fi P w K mg base cl "laid_behind" 1 [false, false, false] (.own none) f_laid_behind := by
  refine def_ok (ls := [.val, .val]) (m := m_laid_behind) (ks' := []) F sc_laid_behind gm bn rfl rfl rfl (.inr rfl) (fun cdv A outer s H E h0 s0 b0 hr => ?_)
  exact (sb_cons (ss_if (st_of (sw_or (st_cmp (op_eqD hr.units) opv_eq nox_eq (se_varB (i := 0) (hq := nq_one)) ((se_lst (n := 0) sa_nil)).toBor) (sw_or1 (st_cmp (op_eqD hr.units) opv_eq nox_eq (se_varB (i := 1) (hq := nq_other)) ((se_lst (n := 0) sa_nil)).toBor))))
  (sb_cons (ss_raise rfl X_Bare nq_Bare)
  sb_nil)
  sb_nil)
  (sb_cons (ss_if (st_cmp op_gt opv_gt nox_gt ((se_add ((sf_Len B (sa_b (se_varB (i := 0) (hq := nq_one)) sa_nil))).valBor ((sf_Len B (sa_b (se_varB (i := 1) (hq := nq_other)) sa_nil))).valBor)).toBor ((se_globI C_MOST_STONES nq_MOST_STONES)).valBor)
  (sb_cons (ss_raise rfl X_TooMany nq_TooMany)
  sb_nil)
  sb_nil)
  (sb_cons (ss_if (st_cmp op_lt opv_lt nox_lt (se_varB (i := 2) (hq := nq_gap)) ((sf_Len B (sa_b (se_varB (i := 1) (hq := nq_other)) sa_nil))).valBor)
  (sb_cons (ss_raise rfl X_TooNear nq_TooNear)
  sb_nil)
  sb_nil)
  (sb_cons (ss_set (i := 3) nd_laid_behind (se_sub ((se_add ((se_add ((se_ix (se_varB (i := 0) (hq := nq_one)) ((se_neg (se_int).valBor)).valBor)).valBor (se_varB (i := 2) (hq := nq_gap)))).toBor (se_int).valBor)).toBor ((se_ix (se_varB (i := 1) (hq := nq_other)) (se_int).valBor)).valBor))
  (sb_cons (ss_ret (se_add (se_varB (i := 0) (hq := nq_one)) (SE.toBor (se_comp [("place", 4)] rfl nd_laid_behind (si_it (sq_bor (se_varB (i := 1) (hq := nq_other)))) (blkOk_by (N := N_laid_behind) (sc := defScope st_laid_behind) (own := [("place", 4)]) (by decide +kernel)) (by decide) (by decide) (fun _ _ _ _ _ => sg_name nd_laid_behind) (fun _ _ _ _ _ => sp_nil) (fun _ _ _ _ _ => ((se_add ((se_var (i := 4) (hq := nq_place))).valBor ((se_var (i := 3) (hq := nq_by))).valBor)).toVal)))))
  sb_nil)))))
abbrev st_put_in : Stmt := topS 41
abbrev N_put_in : List Str := ["row", "place"]
theorem sc_put_in : FnScope N_put_in ["row", "place"] (defScope st_put_in) := ⟨rfl, rfl, rfl, by decide +kernel, rfl, by decide +kernel, by decide +kernel⟩
theorem nd_put_in : N_put_in.Nodup := sc_put_in.nd
theorem ok_put_in {P : Program} {w : World} {K : PySem.W.Frag} {mg : Str → Option Value} {base : Heap} {cl : Cl} {fa : Addr} {fd : FuncData} (B : Bl mg) (hK : cl.K = K) (F : Fun K "put_in" "put_in" st_put_in fa fd) (gm : mg "put_in" = some (.ref fa)) (bn : Binds K fd ["row", "place"] []) {t_MOST_STONES : Tok} (C_MOST_STONES : mg "MOST_STONES" = some (.int 60 t_MOST_STONES)) (X_Laid : XPlain K mg cl "Laid") (X_TooMany : XPlain K mg cl "TooMany") : Fi P w K mg base cl "put_in" 1 [false, true] (.own none) f_put_in := by
  refine def_ok (ls := []) (m := m_put_in) (ks' := []) F sc_put_in gm bn rfl rfl rfl (.inr rfl) (fun cdv A outer s H E h0 s0 b0 hr => ?_)
  exact (sb_cons (ss_if (st_cmp ((op_inD hr.units65).or op_in_sign) opv_in nox_in ((se_var (i := 1) (hq := nq_place))).valBor (se_varB (i := 0) (hq := nq_row)))
  (sb_cons (ss_raise rfl X_Laid nq_Laid)
  sb_nil)
  sb_nil)
  (sb_cons (ss_if (st_cmp op_ge opv_ge nox_ge ((sf_Len B (sa_b (se_varB (i := 0) (hq := nq_row)) sa_nil))).valBor ((se_globI C_MOST_STONES nq_MOST_STONES)).valBor)
  (sb_cons (ss_raise rfl X_TooMany nq_TooMany)
  sb_nil)
  sb_nil)
  (sb_cons (ss_ret (sf_Sorted B (sa_b ((se_add (se_varB (i := 0) (hq := nq_row)) ((se_lst (n := 1) (sa_v (se_var (i := 1) (hq := nq_place)) sa_nil))).toBor)).toBor sa_nil)))
  sb_nil)))
abbrev st_taken_out : Stmt := topS 42
abbrev N_taken_out : List Str := ["row", "place", "own"]
theorem sc_taken_out : FnScope N_taken_out ["row", "place"] (defScope st_taken_out) := ⟨rfl, rfl, rfl, by decide +kernel, rfl, by decide +kernel, by decide +kernel⟩
theorem nd_taken_out : N_taken_out.Nodup := sc_taken_out.nd
theorem ok_taken_out {P : Program} {w : World} {K : PySem.W.Frag} {mg : Str → Option Value} {base : Heap} {cl : Cl} {fa : Addr} {fd : FuncData} (B : Bl mg) (hK : cl.K = K) (F : Fun K "taken_out" "taken_out" st_taken_out fa fd) (gm : mg "taken_out" = some (.ref fa)) (bn : Binds K fd ["row", "place"] []) (X_NoStone : XPlain K mg cl "NoStone") : Fi P w K mg base cl "taken_out" 1 [false, false] (.own none) f_taken_out := by
  refine def_ok (ls := [.val]) (m := m_taken_out) (ks' := []) F sc_taken_out gm bn rfl rfl rfl (.inr rfl) (fun cdv A outer s H E h0 s0 b0 hr => ?_)
  exact (sb_cons (ss_if (st_cmp (op_notInD hr.units65) opv_notIn nox_notIn (se_varB (i := 1) (hq := nq_place)) (se_varB (i := 0) (hq := nq_row)))
  (sb_cons (ss_raise rfl X_NoStone nq_NoStone)
  sb_nil)
  sb_nil)
  (sb_cons (ss_ret (se_comp [("own", 2)] rfl nd_taken_out (si_it (sq_bor (se_varB (i := 0) (hq := nq_row)))) (blkOk_by (N := N_taken_out) (sc := defScope st_taken_out) (own := [("own", 2)]) (by decide +kernel)) (by decide) (by decide) (fun _ _ _ _ _ => sg_name nd_taken_out) (fun _ _ _ _ _ => (sp_one (st_cmp (op_neD hr.units) opv_ne nox_ne ((se_var (i := 2) (hq := nq_own))).valBor (se_varB (i := 1) (hq := nq_place))))) (fun _ _ _ _ _ => (se_var (i := 2) (hq := nq_own)))))
  sb_nil))
abbrev st_behind_entry : Stmt := topS 43
abbrev N_behind_entry : List Str := ["row", "entry"]
theorem sc_behind_entry : FnScope N_behind_entry ["row", "entry"] (defScope st_behind_entry) := ⟨rfl, rfl, rfl, by decide +kernel, rfl, by decide +kernel, by decide +kernel⟩
theorem nd_behind_entry : N_behind_entry.Nodup := sc_behind_entry.nd
theorem ok_behind_entry {P : Program} {w : World} {K : PySem.W.Frag} {mg : Str → Option Value} {base : Heap} {cl : Cl} {fa : Addr} {fd : FuncData} (B : Bl mg) (hK : cl.K = K) (F : Fun K "behind_entry" "behind_entry" st_behind_entry fa fd) (gm : mg "behind_entry" = some (.ref fa)) (bn : Binds K fd ["row", "entry"] []) (F_far : Fi P w K mg base cl "far" 6 [false, false] (.own none) f_far) (F_put_in : Fi P w K mg base cl "put_in" 1 [false, true] (.own none) f_put_in) (F_taken_out : Fi P w K mg base cl "taken_out" 1 [false, false] (.own none) f_taken_out) (F_mirrored : Fi P w K mg base cl "mirrored" 4 [false] (.own none) f_mirrored) (F_laid_behind : Fi P w K mg base cl "laid_behind" 1 [false, false, false] (.own none) f_laid_behind) : Fi P w K mg base cl "behind_entry" 7 [false, false] (.own none) f_behind_entry := by
  refine def_ok (ls := []) (m := m_behind_entry) (ks' := []) F sc_behind_entry gm bn rfl rfl rfl (.inr rfl) (fun cdv A outer s H E h0 s0 b0 hr => ?_)
  exact (sb_cons (ss_if (st_cmp (op_eqD hr.units) opv_eq nox_eq ((se_ix (se_varB (i := 1) (hq := nq_entry)) (se_int).valBor)).valBor (se_str).valBor)
  (sb_cons (ss_ret (se_call F_far (hr.mono (by decide)) (sa_b (se_varB (i := 0) (hq := nq_row)) (sa_b ((se_lst (n := 1) (sa_v (se_tup (n := 2) (sa_v (se_ix (se_varB (i := 1) (hq := nq_entry)) (se_int).valBor) (sa_v (se_ix (se_varB (i := 1) (hq := nq_entry)) (se_int).valBor) sa_nil))) sa_nil))).toBor sa_nil)) nq_far))
  sb_nil)
  sb_nil)
  (sb_cons (ss_if (st_cmp (op_eqD hr.units) opv_eq nox_eq ((se_ix (se_varB (i := 1) (hq := nq_entry)) (se_int).valBor)).valBor (se_str).valBor)
  (sb_cons (ss_ret (se_call F_put_in (hr.mono (by decide)) (sa_b (se_varB (i := 0) (hq := nq_row)) (sa_v (se_ix (se_varB (i := 1) (hq := nq_entry)) (se_int).valBor) sa_nil)) nq_put_in))
  sb_nil)
  sb_nil)
  (sb_cons (ss_if (st_cmp (op_eqD hr.units) opv_eq nox_eq ((se_ix (se_varB (i := 1) (hq := nq_entry)) (se_int).valBor)).valBor (se_str).valBor)
  (sb_cons (ss_ret (se_call F_taken_out (hr.mono (by decide)) (sa_b (se_varB (i := 0) (hq := nq_row)) (sa_b ((se_ix (se_varB (i := 1) (hq := nq_entry)) (se_int).valBor)).valBor sa_nil)) nq_taken_out))
  sb_nil)
  sb_nil)
  (sb_cons (ss_if (st_cmp (op_eqD hr.units) opv_eq nox_eq ((se_ix (se_varB (i := 1) (hq := nq_entry)) (se_int).valBor)).valBor (se_str).valBor)
  (sb_cons (ss_ret (se_call F_mirrored (hr.mono (by decide)) (sa_b (se_varB (i := 0) (hq := nq_row)) sa_nil) nq_mirrored))
  sb_nil)
  sb_nil)
  (sb_cons (ss_ret (se_call F_laid_behind (hr.mono (by decide)) (sa_b (se_varB (i := 0) (hq := nq_row)) (sa_b ((sf_List B (sa_b ((se_ix (se_varB (i := 1) (hq := nq_entry)) (se_int).valBor)).valBor sa_nil))).toBor (sa_b ((se_ix (se_varB (i := 1) (hq := nq_entry)) (se_int).valBor)).valBor sa_nil))) nq_laid_behind))
  sb_nil)))))
abbrev st_gone_over : Stmt := topS 44
abbrev N_gone_over : List Str := ["row", "entries", "at"]
theorem sc_gone_over : FnScope N_gone_over ["row", "entries"] (defScope st_gone_over) := ⟨rfl, rfl, rfl, by decide +kernel, rfl, by decide +kernel, by decide +kernel⟩
theorem nd_gone_over : N_gone_over.Nodup := sc_gone_over.nd
theorem ok_gone_over {P : Program} {w : World} {K : PySem.W.Frag} {mg : Str → Option Value} {base : Heap} {cl : Cl} {fa : Addr} {fd : FuncData} (B : Bl mg) (hK : cl.K = K) (F : Fun K "gone_over" "gone_over" st_gone_over fa fd) (gm : mg "gone_over" = some (.ref fa)) (bn : Binds K fd ["row", "entries"] []) (HS_CreelError : HSub K mg cl "CreelError") (F_behind_entry : Fi P w K mg base cl "behind_entry" 7 [false, false] (.own none) f_behind_entry) : Fi P w K mg base cl "gone_over" 8 [true, false] .val f_gone_over := by
  refine def_ok (ls := [.val]) (m := m_gone_over) (ks' := []) F sc_gone_over gm bn rfl rfl rfl (.inl rfl) (fun cdv A outer s H E h0 s0 b0 hr => ?_)
  exact (sb_cons (ss_for (passes_of rfl) rfl (si_range1 B.range ((sf_Len B (sa_b (se_varB (i := 1) (hq := nq_entries)) sa_nil))).valBor) (sg_name nd_gone_over) (fun s => (sb_cons (ss_try (fun pn xe hp => (sb_cons (ss_set (i := 0) nd_gone_over ((se_call F_behind_entry (hr.mono (by decide)) (sa_b ((se_var (i := 0) (hq := nq_row))).valBor (sa_b ((se_ix (se_varB (i := 1) (hq := nq_entries)) ((se_var (i := 2) (hq := nq_at))).valBor)).valBor sa_nil)) nq_behind_entry)).toVal)
  sb_nil))
 (HB.bare HS_CreelError nq_CreelError rfl (fun a oe cls dd pn s x hz hf xr sx => sb_stuck)
 HB.nil))
  sb_nil)) (by decide))
  (sb_cons (ss_ret (se_var (i := 0) (hq := nq_row)))
  sb_nil))
abbrev st_Road___init__ : Stmt := methS 45 0
abbrev N_Road___init__ : List Str := ["self", "first", "entries", "now"]
theorem sc_Road___init__ : FnScope N_Road___init__ ["self", "first", "entries", "now"] (defScope st_Road___init__) := ⟨rfl, rfl, rfl, by decide +kernel, rfl, by decide +kernel, by decide +kernel⟩
theorem nd_Road___init__ : N_Road___init__.Nodup := sc_Road___init__.nd
theorem ok_Road___init__ {P : Program} {w : World} {K : PySem.W.Frag} {mg : Str → Option Value} {base : Heap} {cl : Cl} {fa : Addr} {fd : FuncData} {c : Addr} (B : Bl mg) (hK : cl.K = K) (F : Fun K "__init__" "Road.__init__" st_Road___init__ fa fd) (bn : Binds K fd ["self", "first", "entries", "now"] []) (hc : cl.o "Road" = some c) (gc : mg "Road" = some (.ref c)) (mk : Mk K c fa) (O_Road_entries : FldOk K cl "Road" "entries") (O_Road_first : FldOk K cl "Road" "first") (O_Road_now : FldOk K cl "Road" "now") : MkM P w K mg base cl "Road" 1 kk_Road 3 f_Road___init__ :=
  ⟨c, fa, fd, _, hc, gc, mk, def_okI (bs := List.replicate 3 true) (ls := []) (m := m_Road___init__) (kk := kk_Road) (ks' := fun a => [.obj (some a) [("first", .val), ("entries", .val), ("now", .val)], .val, .val, .val]) F sc_Road___init__ rfl rfl (fun a => rfl) (fun a cdv A outer s H E h0 s0 b0 hr =>
  (sb_cons (ss_fldNew (i := 0) (C := "Road") (k := .val) (kk := []) O_Road_first (se_var (i := 1) (hq := nq_first)) (by decide +kernel) nq_self)
  (sb_cons (ss_fldNew (i := 0) (C := "Road") (k := .val) (kk := [("first", .val)]) O_Road_entries (se_var (i := 2) (hq := nq_entries)) (by decide +kernel) nq_self)
  (sb_cons (ss_fldNew (i := 0) (C := "Road") (k := .val) (kk := [("first", .val), ("entries", .val)]) O_Road_now (se_var (i := 3) (hq := nq_now)) (by decide +kernel) nq_self)
  sb_nil)))), bn⟩
abbrev st_Road_behind_one : Stmt := methS 45 1
abbrev N_Road_behind_one : List Str := ["self", "entry"]
theorem sc_Road_behind_one : FnScope N_Road_behind_one ["self", "entry"] (defScope st_Road_behind_one) := ⟨rfl, rfl, rfl, by decide +kernel, rfl, by decide +kernel, by decide +kernel⟩
theorem nd_Road_behind_one : N_Road_behind_one.Nodup := sc_Road_behind_one.nd
theorem ok_Road_behind_one {P : Program} {w : World} {K : PySem.W.Frag} {mg : Str → Option Value} {base : Heap} {cl : Cl} {fa : Addr} {fd : FuncData} {c : Addr} (B : Bl mg) (hK : cl.K = K) (F : Fun K "behind_one" "Road.behind_one" st_Road_behind_one fa fd) (bn : Binds K fd ["self", "entry"] []) (hc : cl.o "Road" = some c) (h1 : Cls K c) (h2 : Meth K c "behind_one" fa) (O_Road_entries : FldOk K cl "Road" "entries") (O_Road_first : FldOk K cl "Road" "first") (O_Road_now : FldOk K cl "Road" "now") (K_Road : MkM P w K mg base cl "Road" 1 kk_Road 3 f_Road___init__) (F_behind_entry : Fi P w K mg base cl "behind_entry" 7 [false, false] (.own none) f_behind_entry) : FiR P w K mg base cl "Road" "behind_one" 8 true [true] .val f_Road_behind_one := by
  refine def_okR (ls := []) (m := m_Road_behind_one) (ks' := []) F sc_Road_behind_one bn hc h1 h2 rfl rfl rfl (.inl rfl) (fun cdv A outer s H E h0 s0 b0 hr => ?_)
  exact (sb_cons (ss_ret ((se_make (nb := 3) K_Road (hr.mono (by decide)) (sa_v (se_attV O_Road_first (se_var (i := 0) (hq := nq_self))) (sa_v ((se_add ((se_attV O_Road_entries (se_var (i := 0) (hq := nq_self)))).valBor ((se_lst (n := 1) (sa_v (se_var (i := 1) (hq := nq_entry)) sa_nil))).toBor)).toVal (sa_v ((se_call F_behind_entry (hr.mono (by decide)) (sa_b ((se_attV O_Road_now (se_var (i := 0) (hq := nq_self)))).valBor (sa_b ((se_var (i := 1) (hq := nq_entry))).valBor sa_nil)) nq_behind_entry)).toVal sa_nil))) nq_Road)).toVal)
  sb_nil)
abbrev st_Road_anew : Stmt := methS 45 2
abbrev N_Road_anew : List Str := ["self", "entries"]
theorem sc_Road_anew : FnScope N_Road_anew ["self", "entries"] (defScope st_Road_anew) := ⟨rfl, rfl, rfl, by decide +kernel, rfl, by decide +kernel, by decide +kernel⟩
theorem nd_Road_anew : N_Road_anew.Nodup := sc_Road_anew.nd
theorem ok_Road_anew {P : Program} {w : World} {K : PySem.W.Frag} {mg : Str → Option Value} {base : Heap} {cl : Cl} {fa : Addr} {fd : FuncData} {c : Addr} (B : Bl mg) (hK : cl.K = K) (F : Fun K "anew" "Road.anew" st_Road_anew fa fd) (bn : Binds K fd ["self", "entries"] []) (hc : cl.o "Road" = some c) (h1 : Cls K c) (h2 : Meth K c "anew" fa) (O_Road_first : FldOk K cl "Road" "first") (K_Road : MkM P w K mg base cl "Road" 1 kk_Road 3 f_Road___init__) (F_gone_over : Fi P w K mg base cl "gone_over" 8 [true, false] .val f_gone_over) : FiR P w K mg base cl "Road" "anew" 9 true [true] .val f_Road_anew := by
  refine def_okR (ls := []) (m := m_Road_anew) (ks' := []) F sc_Road_anew bn hc h1 h2 rfl rfl rfl (.inl rfl) (fun cdv A outer s H E h0 s0 b0 hr => ?_)
  exact (sb_cons (ss_ret ((se_make (nb := 3) K_Road (hr.mono (by decide)) (sa_v (se_attV O_Road_first (se_var (i := 0) (hq := nq_self))) (sa_v (se_var (i := 1) (hq := nq_entries)) (sa_v (se_call F_gone_over (hr.mono (by decide)) (sa_v (se_attV O_Road_first (se_var (i := 0) (hq := nq_self))) (sa_b ((se_var (i := 1) (hq := nq_entries))).valBor sa_nil)) nq_gone_over) sa_nil))) nq_Road)).toVal)
  sb_nil)
abbrev st_is_name : Stmt := topS 50
abbrev N_is_name : List Str := ["text", "sign"]
theorem sc_is_name : FnScope N_is_name ["text"] (defScope st_is_name) := ⟨rfl, rfl, rfl, by decide +kernel, rfl, by decide +kernel, by decide +kernel⟩
theorem nd_is_name : N_is_name.Nodup := sc_is_name.nd
theorem ok_is_name {P : Program} {w : World} {K : PySem.W.Frag} {mg : Str → Option Value} {base : Heap} {cl : Cl} {fa : Addr} {fd : FuncData} (B : Bl mg) (hK : cl.K = K) (F : Fun K "is_name" "is_name" st_is_name fa fd) (gm : mg "is_name" = some (.ref fa)) (bn : Binds K fd ["text"] []) {t_LETTERS : Tok} (C_LETTERS : mg "LETTERS" = some (.str "abcdefghijklmnopqrstuvwxyz" t_LETTERS)) {t_MOST_SIGNS : Tok} (C_MOST_SIGNS : mg "MOST_SIGNS" = some (.int 8 t_MOST_SIGNS)) : Fi P w K mg base cl "is_name" 1 [false] .val f_is_name := by
  refine def_ok (ls := [.val]) (m := m_is_name) (ks' := []) F sc_is_name gm bn rfl rfl rfl (.inl rfl) (fun cdv A outer s H E h0 s0 b0 hr => ?_)
  exact (sb_cons (ss_ret (se_and (se_chain op_le opv_le nox_le op_le opv_le nox_le (se_int).valBor ((sf_Len B (sa_b (se_varB (i := 0) (hq := nq_text)) sa_nil))).valBor ((se_globI C_MOST_SIGNS nq_MOST_SIGNS)).valBor) (se_one (sf_All B (sa_b (SE.toBor (se_comp [("sign", 1)] rfl nd_is_name (si_it (sq_bor (se_varB (i := 0) (hq := nq_text)))) (blkOk_by (N := N_is_name) (sc := defScope st_is_name) (own := [("sign", 1)]) (by decide +kernel)) (by decide) (by decide) (fun _ _ _ _ _ => sg_name nd_is_name) (fun _ _ _ _ _ => sp_nil) (fun _ _ _ _ _ => (se_cmp ((op_inD hr.units65).or op_in_sign) opv_in nox_in ((se_var (i := 1) (hq := nq_sign))).valBor ((se_globS C_LETTERS nq_LETTERS)).valBor)))) sa_nil)))))
  sb_nil)
abbrev st_House___init__ : Stmt := methS 51 0
abbrev N_House___init__ : List Str := ["self"]
theorem sc_House___init__ : FnScope N_House___init__ ["self"] (defScope st_House___init__) := ⟨rfl, rfl, rfl, by decide +kernel, rfl, by decide +kernel, by decide +kernel⟩
theorem nd_House___init__ : N_House___init__.Nodup := sc_House___init__.nd
theorem ok_House___init__ {P : Program} {w : World} {K : PySem.W.Frag} {mg : Str → Option Value} {base : Heap} {cl : Cl} {fa : Addr} {fd : FuncData} {c : Addr} (B : Bl mg) (hK : cl.K = K) (F : Fun K "__init__" "House.__init__" st_House___init__ fa fd) (bn : Binds K fd ["self"] []) (hc : cl.o "House" = some c) (gc : mg "House" = some (.ref c)) (mk : Mk K c fa) (O_House_by_name : FldOk K cl "House" "by_name") (O_House_done : FldOk K cl "House" "done") (O_House_gone : FldOk K cl "House" "gone") : MkM P w K mg base cl "House" 1 kk_House 0 f_House___init__ :=
  ⟨c, fa, fd, _, hc, gc, mk, def_okI (bs := List.replicate 0 true) (ls := []) (m := m_House___init__) (kk := kk_House) (ks' := fun a => [.obj (some a) [("by_name", .val), ("done", .own none), ("gone", .own none)]]) F sc_House___init__ rfl rfl (fun a => rfl) (fun a cdv A outer s H E h0 s0 b0 hr =>
  (sb_cons (ss_fldNew (i := 0) (C := "House") (k := .val) (kk := []) O_House_by_name (se_dnew).toVal (by decide +kernel) nq_self)
  (sb_cons (ss_fldNew (i := 0) (C := "House") (k := .own none) (kk := [("by_name", .val)]) O_House_done (se_lst (n := 0) sa_nil) (by decide +kernel) nq_self)
  (sb_cons (ss_fldNew (i := 0) (C := "House") (k := .own none) (kk := [("by_name", .val), ("done", .own none)]) O_House_gone (se_lst (n := 0) sa_nil) (by decide +kernel) nq_self)
  sb_nil)))), bn⟩
abbrev st_House_road : Stmt := methS 51 1
abbrev N_House_road : List Str := ["self", "name"]
theorem sc_House_road : FnScope N_House_road ["self", "name"] (defScope st_House_road) := ⟨rfl, rfl, rfl, by decide +kernel, rfl, by decide +kernel, by decide +kernel⟩
theorem nd_House_road : N_House_road.Nodup := sc_House_road.nd
theorem ok_House_road {P : Program} {w : World} {K : PySem.W.Frag} {mg : Str → Option Value} {base : Heap} {cl : Cl} {fa : Addr} {fd : FuncData} {c : Addr} (B : Bl mg) (hK : cl.K = K) (F : Fun K "road" "House.road" st_House_road fa fd) (bn : Binds K fd ["self", "name"] []) (hc : cl.o "House" = some c) (h1 : Cls K c) (h2 : Meth K c "road" fa) (X_NoRoad : XPlain K mg cl "NoRoad") (O_House_by_name : FldOk K cl "House" "by_name") : FiR P w K mg base cl "House" "road" 1 false [false] .val f_House_road := by
  refine def_okR (ls := []) (m := m_House_road) (ks' := []) F sc_House_road bn hc h1 h2 rfl rfl rfl (.inl rfl) (fun cdv A outer s H E h0 s0 b0 hr => ?_)
  exact (sb_cons (ss_if (st_dout hr.units65 (se_varB (i := 1) (hq := nq_name)) (se_attB O_House_by_name (se_varB (i := 0) (hq := nq_self))))
  (sb_cons (ss_raise rfl X_NoRoad nq_NoRoad)
  sb_nil)
  sb_nil)
  (sb_cons (ss_ret (se_dix hr.units65 (se_attB O_House_by_name (se_varB (i := 0) (hq := nq_self))) (se_varB (i := 1) (hq := nq_name))))
  sb_nil))
abbrev st_House_become : Stmt := methS 51 2
abbrev N_House_become : List Str := ["self", "deed", "name", "road"]
theorem sc_House_become : FnScope N_House_become ["self", "deed", "name", "road"] (defScope st_House_become) := ⟨rfl, rfl, rfl, by decide +kernel, rfl, by decide +kernel, by decide +kernel⟩
theorem nd_House_become : N_House_become.Nodup := sc_House_become.nd
theorem ok_House_become {P : Program} {w : World} {K : PySem.W.Frag} {mg : Str → Option Value} {base : Heap} {cl : Cl} {fa : Addr} {fd : FuncData} (B : Bl mg) (hK : cl.K = K) (F : Fun K "become" "House.become" st_House_become fa fd) (bn : Binds K fd ["self", "deed", "name", "road"] []) (M : ∀ c, cl.o "House" = some c → Cls K c ∧ Meth K c "become" fa) (O_House_by_name : FldOk K cl "House" "by_name") (O_House_done : FldOk K cl "House" "done") (O_House_gone : FldOk K cl "House" "gone") : FiM P w K mg base cl "House" "become" 1 kk_House kk_House 3 .val f_House_become := by
  refine def_okS (ls := []) (m := m_House_become) (ks' := fun a => [.obj (some a) kk_House, .val, .val, .val]) F sc_House_become bn M rfl rfl rfl rfl (.inl rfl) (fun a => rfl) (fun a cdv A outer s H E h0 s0 b0 hr => ?_)
  exact (sb_cons (ss_fldApp (i := 0) (j := 1) (C := "House") O_House_done (se_tup (n := 2) (sa_v (se_var (i := 1) (hq := nq_deed)) (sa_v (se_fldV (i := 0) (j := 0) (C := "House") (hnd := knd_House) (hq := nq_self) O_House_by_name) sa_nil))) knd_House nq_self)
  (sb_cons (ss_fldPut (i := 0) (j := 2) (C := "House") (k := .own none) (kk2 := kk_House) O_House_gone (se_lst (n := 0) sa_nil) knd_House nq_self)
  (sb_cons (ss_fldPut (i := 0) (j := 0) (C := "House") (k := .own none) (kk2 := [("by_name", .own none), ("done", .own none), ("gone", .own none)]) O_House_by_name (sf_DictD B (sa_b ((se_fldV (i := 0) (j := 0) (C := "House") (hnd := knd_House) (hq := nq_self) O_House_by_name)).valBor sa_nil)) knd_House nq_self)
  (sb_cons (ss_ifN (st_isN ((se_var (i := 3) (hq := nq_road))).valBor)
  (sb_cons (ss_fldPopK (i := 0) (j := 0) (C := "House") (kk := [("by_name", .own none), ("done", .own none), ("gone", .own none)]) O_House_by_name ((se_var (i := 2) (hq := nq_name))).valBor (by decide +kernel) nq_self)
  sb_nil)
  (sb_cons (ss_fldPutK (i := 0) (j := 0) (C := "House") (kk := [("by_name", .own none), ("done", .own none), ("gone", .own none)]) hr.units65 O_House_by_name ((se_var (i := 2) (hq := nq_name))).valBor (se_var (i := 3) (hq := nq_road)) (by decide +kernel) nq_self)
  sb_nil))
  (sb_frzF 0 0 sb_nil)))))
abbrev st_House_build : Stmt := methS 51 3
abbrev N_House_build : List Str := ["self", "name", "row"]
theorem sc_House_build : FnScope N_House_build ["self", "name", "row"] (defScope st_House_build) := ⟨rfl, rfl, rfl, by decide +kernel, rfl, by decide +kernel, by decide +kernel⟩
theorem nd_House_build : N_House_build.Nodup := sc_House_build.nd
theorem ok_House_build {P : Program} {w : World} {K : PySem.W.Frag} {mg : Str → Option Value} {base : Heap} {cl : Cl} {fa : Addr} {fd : FuncData} (B : Bl mg) (hK : cl.K = K) (F : Fun K "build" "House.build" st_House_build fa fd) (bn : Binds K fd ["self", "name", "row"] []) (M : ∀ c, cl.o "House" = some c → Cls K c ∧ Meth K c "build" fa) {t_MOST_ROADS : Tok} (C_MOST_ROADS : mg "MOST_ROADS" = some (.int 8 t_MOST_ROADS)) (X_BadName : XPlain K mg cl "BadName") (X_Full : XPlain K mg cl "Full") (X_Taken : XPlain K mg cl "Taken") (O_House_by_name : FldOk K cl "House" "by_name") (F_is_name : Fi P w K mg base cl "is_name" 1 [false] .val f_is_name) (F_look_row : Fi P w K mg base cl "look_row" 3 [false] .val f_look_row) (F_House_become : FiM P w K mg base cl "House" "become" 1 kk_House kk_House 3 .val f_House_become) (K_Road : MkM P w K mg base cl "Road" 1 kk_Road 3 f_Road___init__) : FiM P w K mg base cl "House" "build" 4 kk_House kk_House 2 .val f_House_build := by
  refine def_okS (ls := []) (m := m_House_build) (ks' := fun a => [.obj (some a) kk_House, .val, .val]) F sc_House_build bn M rfl rfl rfl rfl (.inl rfl) (fun a => rfl) (fun a cdv A outer s H E h0 s0 b0 hr => ?_)
  exact (sb_cons (ss_if (st_not (st_val ((se_call F_is_name (hr.mono (by decide)) (sa_b ((se_var (i := 1) (hq := nq_name))).valBor sa_nil) nq_is_name)).valBor))
  (sb_cons (ss_raise rfl X_BadName nq_BadName)
  sb_nil)
  sb_nil)
  (sb_cons (ss_if (st_din hr.units65 ((se_var (i := 1) (hq := nq_name))).valBor ((se_fldV (i := 0) (j := 0) (C := "House") (hnd := knd_House) (hq := nq_self) O_House_by_name)).valBor)
  (sb_cons (ss_raise rfl X_Taken nq_Taken)
  sb_nil)
  sb_nil)
  (sb_cons (ss_expr (se_call F_look_row (hr.mono (by decide)) (sa_b ((se_var (i := 2) (hq := nq_row))).valBor sa_nil) nq_look_row))
  (sb_cons (ss_if (st_cmp op_ge opv_ge nox_ge ((sf_LenD B (sa_b ((se_fldV (i := 0) (j := 0) (C := "House") (hnd := knd_House) (hq := nq_self) O_House_by_name)).valBor sa_nil))).valBor ((se_globI C_MOST_ROADS nq_MOST_ROADS)).valBor)
  (sb_cons (ss_raise rfl X_Full nq_Full)
  sb_nil)
  sb_nil)
  (sb_cons (ss_exprX (sx_meth (i := 0) (C := "House") (nb := 3) F_House_become (hr.mono (by decide)) (sa_v (se_tup (n := 3) (sa_v se_str (sa_v (se_var (i := 1) (hq := nq_name)) (sa_v (sf_Tuple B (sa_b ((se_var (i := 2) (hq := nq_row))).valBor sa_nil)) sa_nil)))) (sa_v (se_var (i := 1) (hq := nq_name)) (sa_v ((se_make (nb := 3) K_Road (hr.mono (by decide)) (sa_v ((sf_List B (sa_b ((se_var (i := 2) (hq := nq_row))).valBor sa_nil))).toVal (sa_v ((se_lst (n := 0) sa_nil)).toVal (sa_v ((sf_List B (sa_b ((se_var (i := 2) (hq := nq_row))).valBor sa_nil))).toVal sa_nil))) nq_Road)).toVal sa_nil))) nq_self kno_House_become))
  sb_nil)))))
abbrev st_House_walk : Stmt := methS 51 5
abbrev N_House_walk : List Str := ["self", "name", "creel", "count", "own"]
theorem sc_House_walk : FnScope N_House_walk ["self", "name", "creel", "count"] (defScope st_House_walk) := ⟨rfl, rfl, rfl, by decide +kernel, rfl, by decide +kernel, by decide +kernel⟩
theorem nd_House_walk : N_House_walk.Nodup := sc_House_walk.nd
theorem ok_House_walk {P : Program} {w : World} {K : PySem.W.Frag} {mg : Str → Option Value} {base : Heap} {cl : Cl} {fa : Addr} {fd : FuncData} (B : Bl mg) (hK : cl.K = K) (F : Fun K "walk" "House.walk" st_House_walk fa fd) (bn : Binds K fd ["self", "name", "creel", "count"] []) (M : ∀ c, cl.o "House" = some c → Cls K c ∧ Meth K c "walk" fa) (F_House_road : FiR P w K mg base cl "House" "road" 1 false [false] .val f_House_road) (F_look_creel : Fi P w K mg base cl "look_creel" 1 [false] .val f_look_creel) (F_House_become : FiM P w K mg base cl "House" "become" 1 kk_House kk_House 3 .val f_House_become) (F_Road_behind_one : FiR P w K mg base cl "Road" "behind_one" 8 true [true] .val f_Road_behind_one) : FiM P w K mg base cl "House" "walk" 9 kk_House kk_House 3 .val f_House_walk := by
  refine def_okS (ls := [.val]) (m := m_House_walk) (ks' := fun a => [.obj (some a) kk_House, .val, .val, .val, .val]) F sc_House_walk bn M rfl rfl rfl rfl (.inl rfl) (fun a => rfl) (fun a cdv A outer s H E h0 s0 b0 hr => ?_)
  exact (sb_cons (ss_set (i := 4) nd_House_walk (se_methR F_House_road (hr.mono (by decide)) (se_varB (i := 0) (hq := nq_self)) (sa_b ((se_var (i := 1) (hq := nq_name))).valBor sa_nil)))
  (sb_cons (ss_expr (se_call F_look_creel (hr.mono (by decide)) (sa_b ((se_var (i := 2) (hq := nq_creel))).valBor sa_nil) nq_look_creel))
  (sb_cons (ss_exprX (sx_meth (i := 0) (C := "House") (nb := 3) F_House_become (hr.mono (by decide)) (sa_v (se_tup (n := 4) (sa_v se_str (sa_v (se_var (i := 1) (hq := nq_name)) (sa_v (se_var (i := 2) (hq := nq_creel)) (sa_v (se_var (i := 3) (hq := nq_count)) sa_nil))))) (sa_v (se_var (i := 1) (hq := nq_name)) (sa_v (se_methR F_Road_behind_one (hr.mono (by decide)) (se_var (i := 4) (hq := nq_own)) (sa_v (se_tup (n := 3) (sa_v se_str (sa_v (se_var (i := 2) (hq := nq_creel)) (sa_v (se_var (i := 3) (hq := nq_count)) sa_nil)))) sa_nil)) sa_nil))) nq_self kno_House_become))
  sb_nil)))
abbrev st_House_put : Stmt := methS 51 6
abbrev N_House_put : List Str := ["self", "name", "place", "own"]
theorem sc_House_put : FnScope N_House_put ["self", "name", "place"] (defScope st_House_put) := ⟨rfl, rfl, rfl, by decide +kernel, rfl, by decide +kernel, by decide +kernel⟩
theorem nd_House_put : N_House_put.Nodup := sc_House_put.nd
theorem ok_House_put {P : Program} {w : World} {K : PySem.W.Frag} {mg : Str → Option Value} {base : Heap} {cl : Cl} {fa : Addr} {fd : FuncData} (B : Bl mg) (hK : cl.K = K) (F : Fun K "put" "House.put" st_House_put fa fd) (bn : Binds K fd ["self", "name", "place"] []) (M : ∀ c, cl.o "House" = some c → Cls K c ∧ Meth K c "put" fa) (F_House_road : FiR P w K mg base cl "House" "road" 1 false [false] .val f_House_road) (F_House_become : FiM P w K mg base cl "House" "become" 1 kk_House kk_House 3 .val f_House_become) (F_Road_behind_one : FiR P w K mg base cl "Road" "behind_one" 8 true [true] .val f_Road_behind_one) : FiM P w K mg base cl "House" "put" 9 kk_House kk_House 2 .val f_House_put := by
  refine def_okS (ls := [.val]) (m := m_House_put) (ks' := fun a => [.obj (some a) kk_House, .val, .val, .val]) F sc_House_put bn M rfl rfl rfl rfl (.inl rfl) (fun a => rfl) (fun a cdv A outer s H E h0 s0 b0 hr => ?_)
  exact (sb_cons (ss_set (i := 3) nd_House_put (se_methR F_House_road (hr.mono (by decide)) (se_varB (i := 0) (hq := nq_self)) (sa_b ((se_var (i := 1) (hq := nq_name))).valBor sa_nil)))
  (sb_cons (ss_exprX (sx_meth (i := 0) (C := "House") (nb := 3) F_House_become (hr.mono (by decide)) (sa_v (se_tup (n := 3) (sa_v se_str (sa_v (se_var (i := 1) (hq := nq_name)) (sa_v (se_var (i := 2) (hq := nq_place)) sa_nil)))) (sa_v (se_var (i := 1) (hq := nq_name)) (sa_v (se_methR F_Road_behind_one (hr.mono (by decide)) (se_var (i := 3) (hq := nq_own)) (sa_v (se_tup (n := 2) (sa_v se_str (sa_v (se_var (i := 2) (hq := nq_place)) sa_nil))) sa_nil)) sa_nil))) nq_self kno_House_become))
  sb_nil))
abbrev st_House_late : Stmt := methS 51 10
abbrev N_House_late : List Str := ["self", "name", "at", "creel", "count", "own", "fresh"]
theorem sc_House_late : FnScope N_House_late ["self", "name", "at", "creel", "count"] (defScope st_House_late) := ⟨rfl, rfl, rfl, by decide +kernel, rfl, by decide +kernel, by decide +kernel⟩
theorem nd_House_late : N_House_late.Nodup := sc_House_late.nd
theorem ok_House_late {P : Program} {w : World} {K : PySem.W.Frag} {mg : Str → Option Value} {base : Heap} {cl : Cl} {fa : Addr} {fd : FuncData} (B : Bl mg) (hK : cl.K = K) (F : Fun K "late" "House.late" st_House_late fa fd) (bn : Binds K fd ["self", "name", "at", "creel", "count"] []) (M : ∀ c, cl.o "House" = some c → Cls K c ∧ Meth K c "late" fa) (X_NoEntry : XPlain K mg cl "NoEntry") (O_Road_entries : FldOk K cl "Road" "entries") (F_House_road : FiR P w K mg base cl "House" "road" 1 false [false] .val f_House_road) (F_look_creel : Fi P w K mg base cl "look_creel" 1 [false] .val f_look_creel) (F_Road_anew : FiR P w K mg base cl "Road" "anew" 9 true [true] .val f_Road_anew) (F_House_become : FiM P w K mg base cl "House" "become" 1 kk_House kk_House 3 .val f_House_become) : FiM P w K mg base cl "House" "late" 10 kk_House kk_House 4 .val f_House_late := by
  refine def_okS (ls := [.val, .val]) (m := m_House_late) (ks' := fun a => [.obj (some a) kk_House, .val, .val, .val, .val, .val, .val]) F sc_House_late bn M rfl rfl rfl rfl (.inl rfl) (fun a => rfl) (fun a cdv A outer s H E h0 s0 b0 hr => ?_)
  exact (sb_cons (ss_set (i := 5) nd_House_late (se_methR F_House_road (hr.mono (by decide)) (se_varB (i := 0) (hq := nq_self)) (sa_b ((se_var (i := 1) (hq := nq_name))).valBor sa_nil)))
  (sb_cons (ss_if (st_of (sw_or (st_cmp op_lt opv_lt nox_lt ((se_var (i := 2) (hq := nq_at))).valBor (se_int).valBor) (sw_or1 (st_cmp op_gt opv_gt nox_gt ((se_var (i := 2) (hq := nq_at))).valBor ((sf_Len B (sa_b ((se_attV O_Road_entries (se_var (i := 5) (hq := nq_own)))).valBor sa_nil))).valBor))))
  (sb_cons (ss_raise rfl X_NoEntry nq_NoEntry)
  sb_nil)
  sb_nil)
  (sb_cons (ss_expr (se_call F_look_creel (hr.mono (by decide)) (sa_b ((se_var (i := 3) (hq := nq_creel))).valBor sa_nil) nq_look_creel))
  (sb_cons (ss_set (i := 6) nd_House_late (se_methR F_Road_anew (hr.mono (by decide)) (se_var (i := 5) (hq := nq_own)) (sa_v ((se_add ((se_add ((se_slL ((se_attV O_Road_entries (se_var (i := 5) (hq := nq_own)))).valBor so_none (so_some ((se_var (i := 2) (hq := nq_at))).valBor))).toBor ((se_lst (n := 1) (sa_v (se_tup (n := 3) (sa_v se_str (sa_v (se_var (i := 3) (hq := nq_creel)) (sa_v (se_var (i := 4) (hq := nq_count)) sa_nil)))) sa_nil))).toBor)).toBor ((se_slL ((se_attV O_Road_entries (se_var (i := 5) (hq := nq_own)))).valBor (so_some ((se_var (i := 2) (hq := nq_at))).valBor) so_none)).toBor)).toVal sa_nil)))
  (sb_cons (ss_exprX (sx_meth (i := 0) (C := "House") (nb := 3) F_House_become (hr.mono (by decide)) (sa_v (se_tup (n := 5) (sa_v se_str (sa_v (se_var (i := 1) (hq := nq_name)) (sa_v (se_var (i := 2) (hq := nq_at)) (sa_v (se_var (i := 3) (hq := nq_creel)) (sa_v (se_var (i := 4) (hq := nq_count)) sa_nil)))))) (sa_v (se_var (i := 1) (hq := nq_name)) (sa_v (se_var (i := 6) (hq := nq_fresh)) sa_nil))) nq_self kno_House_become))
  sb_nil)))))
abbrev st_House_strike : Stmt := methS 51 11
abbrev N_House_strike : List Str := ["self", "name", "at", "own", "fresh"]
theorem sc_House_strike : FnScope N_House_strike ["self", "name", "at"] (defScope st_House_strike) := ⟨rfl, rfl, rfl, by decide +kernel, rfl, by decide +kernel, by decide +kernel⟩
theorem nd_House_strike : N_House_strike.Nodup := sc_House_strike.nd
theorem ok_House_strike {P : Program} {w : World} {K : PySem.W.Frag} {mg : Str → Option Value} {base : Heap} {cl : Cl} {fa : Addr} {fd : FuncData} (B : Bl mg) (hK : cl.K = K) (F : Fun K "strike" "House.strike" st_House_strike fa fd) (bn : Binds K fd ["self", "name", "at"] []) (M : ∀ c, cl.o "House" = some c → Cls K c ∧ Meth K c "strike" fa) (X_NoEntry : XPlain K mg cl "NoEntry") (X_NotWalk : XPlain K mg cl "NotWalk") (O_Road_entries : FldOk K cl "Road" "entries") (F_House_road : FiR P w K mg base cl "House" "road" 1 false [false] .val f_House_road) (F_Road_anew : FiR P w K mg base cl "Road" "anew" 9 true [true] .val f_Road_anew) (F_House_become : FiM P w K mg base cl "House" "become" 1 kk_House kk_House 3 .val f_House_become) : FiM P w K mg base cl "House" "strike" 10 kk_House kk_House 2 .val f_House_strike := by
  refine def_okS (ls := [.val, .val]) (m := m_House_strike) (ks' := fun a => [.obj (some a) kk_House, .val, .val, .val, .val]) F sc_House_strike bn M rfl rfl rfl rfl (.inl rfl) (fun a => rfl) (fun a cdv A outer s H E h0 s0 b0 hr => ?_)
  exact (sb_cons (ss_set (i := 3) nd_House_strike (se_methR F_House_road (hr.mono (by decide)) (se_varB (i := 0) (hq := nq_self)) (sa_b ((se_var (i := 1) (hq := nq_name))).valBor sa_nil)))
  (sb_cons (ss_if (st_of (sw_or (st_cmp op_lt opv_lt nox_lt ((se_var (i := 2) (hq := nq_at))).valBor (se_int).valBor) (sw_or1 (st_cmp op_ge opv_ge nox_ge ((se_var (i := 2) (hq := nq_at))).valBor ((sf_Len B (sa_b ((se_attV O_Road_entries (se_var (i := 3) (hq := nq_own)))).valBor sa_nil))).valBor))))
  (sb_cons (ss_raise rfl X_NoEntry nq_NoEntry)
  sb_nil)
  sb_nil)
  (sb_cons (ss_if (st_cmp (op_neD hr.units) opv_ne nox_ne ((se_ix ((se_ix ((se_attV O_Road_entries (se_var (i := 3) (hq := nq_own)))).valBor ((se_var (i := 2) (hq := nq_at))).valBor)).valBor (se_int).valBor)).valBor (se_str).valBor)
  (sb_cons (ss_raise rfl X_NotWalk nq_NotWalk)
  sb_nil)
  sb_nil)
  (sb_cons (ss_set (i := 4) nd_House_strike (se_methR F_Road_anew (hr.mono (by decide)) (se_var (i := 3) (hq := nq_own)) (sa_v ((se_add ((se_slL ((se_attV O_Road_entries (se_var (i := 3) (hq := nq_own)))).valBor so_none (so_some ((se_var (i := 2) (hq := nq_at))).valBor))).toBor ((se_slL ((se_attV O_Road_entries (se_var (i := 3) (hq := nq_own)))).valBor (so_some ((se_add ((se_var (i := 2) (hq := nq_at))).valBor (se_int).valBor)).toBor) so_none)).toBor)).toVal sa_nil)))
  (sb_cons (ss_exprX (sx_meth (i := 0) (C := "House") (nb := 3) F_House_become (hr.mono (by decide)) (sa_v (se_tup (n := 3) (sa_v se_str (sa_v (se_var (i := 1) (hq := nq_name)) (sa_v (se_var (i := 2) (hq := nq_at)) sa_nil)))) (sa_v (se_var (i := 1) (hq := nq_name)) (sa_v (se_var (i := 4) (hq := nq_fresh)) sa_nil))) nq_self kno_House_become))
  sb_nil)))))
abbrev st_House_row : Stmt := methS 51 16
abbrev N_House_row : List Str := ["self", "name"]
theorem sc_House_row : FnScope N_House_row ["self", "name"] (defScope st_House_row) := ⟨rfl, rfl, rfl, by decide +kernel, rfl, by decide +kernel, by decide +kernel⟩
theorem nd_House_row : N_House_row.Nodup := sc_House_row.nd
theorem ok_House_row {P : Program} {w : World} {K : PySem.W.Frag} {mg : Str → Option Value} {base : Heap} {cl : Cl} {fa : Addr} {fd : FuncData} {c : Addr} (B : Bl mg) (hK : cl.K = K) (F : Fun K "row" "House.row" st_House_row fa fd) (bn : Binds K fd ["self", "name"] []) (hc : cl.o "House" = some c) (h1 : Cls K c) (h2 : Meth K c "row" fa) (O_Road_now : FldOk K cl "Road" "now") (F_House_road : FiR P w K mg base cl "House" "road" 1 false [false] .val f_House_road) : FiR P w K mg base cl "House" "row" 2 false [false] (.own none) f_House_row := by
  refine def_okR (ls := []) (m := m_House_row) (ks' := []) F sc_House_row bn hc h1 h2 rfl rfl rfl (.inr rfl) (fun cdv A outer s H E h0 s0 b0 hr => ?_)
  exact (sb_cons (ss_ret (sf_List B (sa_b ((se_attV O_Road_now (se_methR F_House_road (hr.mono (by decide)) (se_varB (i := 0) (hq := nq_self)) (sa_b (se_varB (i := 1) (hq := nq_name)) sa_nil)))).valBor sa_nil)))
  sb_nil)
abbrev st_House_log : Stmt := methS 51 17
abbrev N_House_log : List Str := ["self", "name"]
theorem sc_House_log : FnScope N_House_log ["self", "name"] (defScope st_House_log) := ⟨rfl, rfl, rfl, by decide +kernel, rfl, by decide +kernel, by decide +kernel⟩
theorem nd_House_log : N_House_log.Nodup := sc_House_log.nd
theorem ok_House_log {P : Program} {w : World} {K : PySem.W.Frag} {mg : Str → Option Value} {base : Heap} {cl : Cl} {fa : Addr} {fd : FuncData} {c : Addr} (B : Bl mg) (hK : cl.K = K) (F : Fun K "log" "House.log" st_House_log fa fd) (bn : Binds K fd ["self", "name"] []) (hc : cl.o "House" = some c) (h1 : Cls K c) (h2 : Meth K c "log" fa) (O_Road_entries : FldOk K cl "Road" "entries") (F_House_road : FiR P w K mg base cl "House" "road" 1 false [false] .val f_House_road) : FiR P w K mg base cl "House" "log" 2 false [false] (.own none) f_House_log := by
  refine def_okR (ls := []) (m := m_House_log) (ks' := []) F sc_House_log bn hc h1 h2 rfl rfl rfl (.inr rfl) (fun cdv A outer s H E h0 s0 b0 hr => ?_)
  exact (sb_cons (ss_ret (sf_List B (sa_b ((se_attV O_Road_entries (se_methR F_House_road (hr.mono (by decide)) (se_varB (i := 0) (hq := nq_self)) (sa_b (se_varB (i := 1) (hq := nq_name)) sa_nil)))).valBor sa_nil)))
  sb_nil)
abbrev st_numbers_L : Stmt := topS 53
abbrev N_numbers_L : List Str := ["_law_script", "_law_many", "_law_row_here", "_law_seed", "_law_cell", "_law_rest", "_law_k"]
theorem sc_numbers_L : FnScope N_numbers_L ["_law_script", "_law_many"] (defScope st_numbers_L) := ⟨rfl, rfl, rfl, by decide +kernel, rfl, by decide +kernel, by decide +kernel⟩
theorem nd_numbers_L : N_numbers_L.Nodup := sc_numbers_L.nd
theorem ok_numbers_L {P : Program} {w : World} {K : PySem.W.Frag} {mg : Str → Option Value} {base : Heap} {cl : Cl} {fa : Addr} {fd : FuncData} (B : Bl mg) (hK : cl.K = K) (F : Fun K "_law_numbers" "_law_numbers" st_numbers_L fa fd) (gm : mg "_law_numbers" = some (.ref fa)) (bn : Binds K fd ["_law_script", "_law_many"] [])  : Fi P w K mg base cl "_law_numbers" 1 [false, false] (.own none) f_numbers_L := by
  refine def_ok (ls := [.own none, .val, .val, .val, .val]) (m := m_numbers_L) (ks' := []) F sc_numbers_L gm bn rfl rfl rfl (.inr rfl) (fun cdv A outer s H E h0 s0 b0 hr => ?_)
  exact (sb_cons (ss_set (i := 2) nd_numbers_L (se_lst (n := 0) sa_nil))
  (sb_cons (ss_set (i := 3) nd_numbers_L se_int)
  (sb_cons (ss_for (passes_of rfl) rfl (si_it (sq_val ((se_slS hK (se_varB (i := 0) (hq := nq__law_script)) so_none (so_some (se_int).valBor))).toVal)) (sg_name nd_numbers_L) (fun s => (sb_cons (ss_set (i := 3) nd_numbers_L (se_mod ((se_add ((se_add ((se_mul ((se_var (i := 3) (hq := nq__law_seed))).valBor (se_int).valBor)).toBor ((se_mod ((se_var (i := 4) (hq := nq__law_cell))).valBor (se_int).valBor)).valBor)).toBor (se_int).valBor)).toBor (se_int).valBor))
  (sb_cons (ss_set (i := 5) nd_numbers_L (se_sub ((se_var (i := 4) (hq := nq__law_cell))).valBor ((se_pow (se_int).valBor (se_int).valBor)).valBor))
  (sb_cons (ss_if (st_cmp op_lt opv_lt nox_lt ((se_var (i := 5) (hq := nq__law_rest))).valBor (se_int).valBor)
  (sb_cons (ss_append (i := 2) (hq := nq__law_row_here) (se_mod ((se_var (i := 4) (hq := nq__law_cell))).valBor (se_int).valBor))
  sb_nil)
  sb_nil)
  (sb_cons (ss_for (passes_of rfl) rfl (si_range1 B.range (se_int).valBor) (sg_name nd_numbers_L) (fun s => (sb_cons (ss_if (st_cmp op_gt opv_gt nox_gt ((se_var (i := 5) (hq := nq__law_rest))).valBor (se_int).valBor)
  (sb_cons (ss_append (i := 2) (hq := nq__law_row_here) (se_mod ((se_var (i := 5) (hq := nq__law_rest))).valBor (se_int).valBor))
  (sb_cons (ss_set (i := 5) nd_numbers_L (se_fdiv ((se_var (i := 5) (hq := nq__law_rest))).valBor (se_int).valBor))
  sb_nil))
  sb_nil)
  sb_nil)) (by decide))
  sb_nil))))) (by decide))
  (sb_cons (ss_while WB (passes_of rfl) (st_cmp op_lt opv_lt nox_lt ((sf_Len B (sa_b (se_varB (i := 2) (hq := nq__law_row_here)) sa_nil))).valBor (se_varB (i := 1) (hq := nq__law_many)))
  (sb_cons (ss_set (i := 3) nd_numbers_L (se_mod ((se_add ((se_add ((se_add ((se_mul ((se_var (i := 3) (hq := nq__law_seed))).valBor ((se_var (i := 3) (hq := nq__law_seed))).valBor)).toBor ((se_mul (se_int).valBor ((se_var (i := 3) (hq := nq__law_seed))).valBor)).toBor)).toBor ((se_mul (se_int).valBor ((sf_Len B (sa_b (se_varB (i := 2) (hq := nq__law_row_here)) sa_nil))).valBor)).toBor)).toBor (se_int).valBor)).toBor (se_int).valBor))
  (sb_cons (ss_append (i := 2) (hq := nq__law_row_here) (se_mod ((se_fdiv ((se_var (i := 3) (hq := nq__law_seed))).valBor (se_int).valBor)).valBor (se_int).valBor))
  sb_nil)))
  (sb_cons (ss_ret (se_slL (se_varB (i := 2) (hq := nq__law_row_here)) so_none (so_some (se_varB (i := 1) (hq := nq__law_many)))))
  sb_nil)))))
abbrev st_row_L : Stmt := topS 54
abbrev N_row_L : List Str := ["_law_d", "_law_most", "_law_place", "_law_row_here", "_law_k", "_law_step"]
theorem sc_row_L : FnScope N_row_L ["_law_d", "_law_most"] (defScope st_row_L) := ⟨rfl, rfl, rfl, by decide +kernel, rfl, by decide +kernel, by decide +kernel⟩
theorem nd_row_L : N_row_L.Nodup := sc_row_L.nd
theorem ok_row_L {P : Program} {w : World} {K : PySem.W.Frag} {mg : Str → Option Value} {base : Heap} {cl : Cl} {fa : Addr} {fd : FuncData} (B : Bl mg) (hK : cl.K = K) (F : Fun K "_law_row" "_law_row" st_row_L fa fd) (gm : mg "_law_row" = some (.ref fa)) (bn : Binds K fd ["_law_d", "_law_most"] [])  : Fi P w K mg base cl "_law_row" 1 [false, false] (.own none) f_row_L := by
  refine def_ok (ls := [.val, .own none, .val, .val]) (m := m_row_L) (ks' := []) F sc_row_L gm bn rfl rfl rfl (.inr rfl) (fun cdv A outer s H E h0 s0 b0 hr => ?_)
  exact (sb_cons (ss_set (i := 2) nd_row_L (se_sub ((se_mod ((se_ix (se_varB (i := 0) (hq := nq__law_d)) (se_int).valBor)).valBor (se_int).valBor)).valBor (se_int).valBor))
  (sb_cons (ss_set (i := 3) nd_row_L (se_lst (n := 0) sa_nil))
  (sb_cons (ss_for (passes_of rfl) rfl (si_range1 B.range ((se_mod ((se_ix (se_varB (i := 0) (hq := nq__law_d)) (se_int).valBor)).valBor ((se_add (se_varB (i := 1) (hq := nq__law_most)) (se_int).valBor)).toBor)).valBor) (sg_name nd_row_L) (fun s => (sb_cons (ss_set (i := 5) nd_row_L (se_ix (se_varB (i := 0) (hq := nq__law_d)) ((se_add (se_int).valBor ((se_var (i := 4) (hq := nq__law_k))).valBor)).toBor))
  (sb_cons (ss_set (i := 2) nd_row_L ((se_add ((se_add ((se_var (i := 2) (hq := nq__law_place))).valBor (se_int).valBor)).toBor ((se_if (st_cmp (op_eqD hr.units) opv_eq nox_eq ((se_mod ((se_var (i := 5) (hq := nq__law_step))).valBor (se_int).valBor)).valBor (se_int).valBor) se_int (se_mod ((se_fdiv ((se_var (i := 5) (hq := nq__law_step))).valBor (se_int).valBor)).valBor ((se_ix ((se_lst (n := 4) (sa_v se_int (sa_v se_int (sa_v se_int (sa_v se_int sa_nil)))))).toBor ((se_mod ((se_ix (se_varB (i := 0) (hq := nq__law_d)) (se_int).valBor)).valBor (se_int).valBor)).valBor)).valBor))).valBor)).toVal)
  (sb_cons (ss_append (i := 3) (hq := nq__law_row_here) (se_var (i := 2) (hq := nq__law_place)))
  sb_nil)))) (by decide))
  (sb_cons (ss_retV (i := 3) (hq := nq__law_row_here))
  sb_nil))))
abbrev st_long_row_L : Stmt := topS 55
abbrev N_long_row_L : List Str := ["_law_d", "_law_most", "_law_row_here", "_law_cut", "_law_by", "_law_place"]
theorem sc_long_row_L : FnScope N_long_row_L ["_law_d", "_law_most"] (defScope st_long_row_L) := ⟨rfl, rfl, rfl, by decide +kernel, rfl, by decide +kernel, by decide +kernel⟩
theorem nd_long_row_L : N_long_row_L.Nodup := sc_long_row_L.nd
theorem ok_long_row_L {P : Program} {w : World} {K : PySem.W.Frag} {mg : Str → Option Value} {base : Heap} {cl : Cl} {fa : Addr} {fd : FuncData} (B : Bl mg) (hK : cl.K = K) (F : Fun K "_law_long_row" "_law_long_row" st_long_row_L fa fd) (gm : mg "_law_long_row" = some (.ref fa)) (bn : Binds K fd ["_law_d", "_law_most"] []) (F_row_L : Fi P w K mg base cl "_law_row" 1 [false, false] (.own none) f_row_L) : Fi P w K mg base cl "_law_long_row" 2 [false, false] (.own none) f_long_row_L := by
  refine def_ok (ls := [.val, .val, .val, .val]) (m := m_long_row_L) (ks' := []) F sc_long_row_L gm bn rfl rfl rfl (.inr rfl) (fun cdv A outer s H E h0 s0 b0 hr => ?_)
  exact (sb_cons (ss_set (i := 2) nd_long_row_L ((se_call F_row_L (hr.mono (by decide)) (sa_b (se_varB (i := 0) (hq := nq__law_d)) (sa_b (se_varB (i := 1) (hq := nq__law_most)) sa_nil)) nq__law_row)).toVal)
  (sb_cons (ss_set (i := 3) nd_long_row_L (se_mod ((se_fdiv ((se_ix (se_varB (i := 0) (hq := nq__law_d)) (se_int).valBor)).valBor (se_int).valBor)).valBor ((se_add ((sf_Len B (sa_b ((se_var (i := 2) (hq := nq__law_row_here))).valBor sa_nil))).valBor (se_int).valBor)).toBor))
  (sb_cons (ss_set (i := 4) nd_long_row_L (se_ix ((se_lst (n := 4) (sa_v se_int (sa_v (se_pow (se_int).valBor (se_int).valBor) (sa_v (se_pow (se_int).valBor (se_int).valBor) (sa_v (se_pow (se_int).valBor (se_int).valBor) sa_nil)))))).toBor ((se_mod ((se_fdiv ((se_ix (se_varB (i := 0) (hq := nq__law_d)) (se_int).valBor)).valBor (se_int).valBor)).valBor (se_int).valBor)).valBor))
  (sb_cons (ss_ret (se_add ((se_slL ((se_var (i := 2) (hq := nq__law_row_here))).valBor so_none (so_some ((se_var (i := 3) (hq := nq__law_cut))).valBor))).toBor (SE.toBor (se_comp [("_law_place", 5)] rfl nd_long_row_L (si_it (sq_val ((se_slL ((se_var (i := 2) (hq := nq__law_row_here))).valBor (so_some ((se_var (i := 3) (hq := nq__law_cut))).valBor) so_none)).toVal)) (blkOk_by (N := N_long_row_L) (sc := defScope st_long_row_L) (own := [("_law_place", 5)]) (by decide +kernel)) (by decide) (by decide) (fun _ _ _ _ _ => sg_name nd_long_row_L) (fun _ _ _ _ _ => sp_nil) (fun _ _ _ _ _ => ((se_add ((se_var (i := 5) (hq := nq__law_place))).valBor ((se_var (i := 4) (hq := nq__law_by))).valBor)).toVal)))))
  sb_nil))))
abbrev st_walks_L : Stmt := topS 56
abbrev N_walks_L : List Str := ["_law_d", "_law_many", "_law_found", "_law_k", "_law_creel"]
theorem sc_walks_L : FnScope N_walks_L ["_law_d", "_law_many"] (defScope st_walks_L) := ⟨rfl, rfl, rfl, by decide +kernel, rfl, by decide +kernel, by decide +kernel⟩
theorem nd_walks_L : N_walks_L.Nodup := sc_walks_L.nd
theorem ok_walks_L {P : Program} {w : World} {K : PySem.W.Frag} {mg : Str → Option Value} {base : Heap} {cl : Cl} {fa : Addr} {fd : FuncData} (B : Bl mg) (hK : cl.K = K) (F : Fun K "_law_walks" "_law_walks" st_walks_L fa fd) (gm : mg "_law_walks" = some (.ref fa)) (bn : Binds K fd ["_law_d", "_law_many"] [])  : Fi P w K mg base cl "_law_walks" 1 [false, false] (.own none) f_walks_L := by
  refine def_ok (ls := [.own none, .val, .val]) (m := m_walks_L) (ks' := []) F sc_walks_L gm bn rfl rfl rfl (.inr rfl) (fun cdv A outer s H E h0 s0 b0 hr => ?_)
  exact (sb_cons (ss_set (i := 2) nd_walks_L (se_lst (n := 0) sa_nil))
  (sb_cons (ss_for (passes_of rfl) rfl (si_range1 B.range ((se_mod ((se_ix (se_varB (i := 0) (hq := nq__law_d)) (se_int).valBor)).valBor ((se_add (se_varB (i := 1) (hq := nq__law_many)) (se_int).valBor)).toBor)).valBor) (sg_name nd_walks_L) (fun s => (sb_cons (ss_set (i := 4) nd_walks_L ((se_add (se_int).valBor ((se_mod ((se_ix (se_varB (i := 0) (hq := nq__law_d)) ((se_add (se_int).valBor ((se_mul (se_int).valBor ((se_var (i := 3) (hq := nq__law_k))).valBor)).toBor)).toBor)).valBor ((se_ix ((se_lst (n := 3) (sa_v se_int (sa_v se_int (sa_v se_int sa_nil))))).toBor ((se_mod ((se_fdiv ((se_ix (se_varB (i := 0) (hq := nq__law_d)) (se_int).valBor)).valBor (se_int).valBor)).valBor (se_int).valBor)).valBor)).valBor)).valBor)).toVal)
  (sb_cons (ss_if (st_cmp (op_eqD hr.units) opv_eq nox_eq ((se_mod ((se_ix (se_varB (i := 0) (hq := nq__law_d)) ((se_add (se_int).valBor ((se_mul (se_int).valBor ((se_var (i := 3) (hq := nq__law_k))).valBor)).toBor)).toBor)).valBor (se_int).valBor)).valBor (se_int).valBor)
  (sb_cons (ss_set (i := 4) nd_walks_L (se_pow (se_int).valBor (se_int).valBor))
  sb_nil)
  sb_nil)
  (sb_cons (ss_append (i := 2) (hq := nq__law_found) (se_tup (n := 2) (sa_v (se_var (i := 4) (hq := nq__law_creel)) (sa_v (se_sub ((se_mod ((se_ix (se_varB (i := 0) (hq := nq__law_d)) ((se_add (se_int).valBor ((se_mul (se_int).valBor ((se_var (i := 3) (hq := nq__law_k))).valBor)).toBor)).toBor)).valBor (se_int).valBor)).valBor (se_int).valBor) sa_nil))))
  sb_nil)))) (by decide))
  (sb_cons (ss_retV (i := 2) (hq := nq__law_found))
  sb_nil)))
abbrev st_ten_L : Stmt := topS 57
abbrev N_ten_L : List Str := ["_law_many", "_law_found", "_law_step"]
theorem sc_ten_L : FnScope N_ten_L ["_law_many"] (defScope st_ten_L) := ⟨rfl, rfl, rfl, by decide +kernel, rfl, by decide +kernel, by decide +kernel⟩
theorem nd_ten_L : N_ten_L.Nodup := sc_ten_L.nd
theorem ok_ten_L {P : Program} {w : World} {K : PySem.W.Frag} {mg : Str → Option Value} {base : Heap} {cl : Cl} {fa : Addr} {fd : FuncData} (B : Bl mg) (hK : cl.K = K) (F : Fun K "_law_ten" "_law_ten" st_ten_L fa fd) (gm : mg "_law_ten" = some (.ref fa)) (bn : Binds K fd ["_law_many"] [])  : Fi P w K mg base cl "_law_ten" 1 [false] .val f_ten_L := by
  refine def_ok (ls := [.val, .val]) (m := m_ten_L) (ks' := []) F sc_ten_L gm bn rfl rfl rfl (.inl rfl) (fun cdv A outer s H E h0 s0 b0 hr => ?_)
  exact (sb_cons (ss_set (i := 1) nd_ten_L se_int)
  (sb_cons (ss_for (passes_of rfl) rfl (si_range1 B.range (se_varB (i := 0) (hq := nq__law_many))) (sg_name nd_ten_L) (fun s => (sb_cons (ss_set (i := 1) nd_ten_L ((se_mul ((se_var (i := 1) (hq := nq__law_found))).valBor (se_int).valBor)).toVal)
  sb_nil)) (by decide))
  (sb_cons (ss_ret (se_var (i := 1) (hq := nq__law_found)))
  sb_nil)))
abbrev st_law : Stmt := topS 58
abbrev N_law : List Str := ["_law_script", "_law_numbers_here", "_law_row_here", "_law_house", "_law_far_place", "_law_start", "_law_walks_here", "_law_creel", "_law_count", "_law_k", "_law_walk", "_law_at", "_law_gone"]
theorem sc_law : FnScope N_law ["_law_script"] (defScope st_law) := ⟨rfl, rfl, rfl, by decide +kernel, rfl, by decide +kernel, by decide +kernel⟩
theorem nd_law : N_law.Nodup := sc_law.nd
theorem ok_law {P : Program} {w : World} {K : PySem.W.Frag} {mg : Str → Option Value} {base : Heap} {cl : Cl} {fa : Addr} {fd : FuncData} (B : Bl mg) (hK : cl.K = K) (F : Fun K "law" "law" st_law fa fd) (F_numbers_L : Fi P w K mg base cl "_law_numbers" 1 [false, false] (.own none) f_numbers_L) (F_long_row_L : Fi P w K mg base cl "_law_long_row" 2 [false, false] (.own none) f_long_row_L) (K_House : MkM P w K mg base cl "House" 1 kk_House 0 f_House___init__) (F_House_build : FiM P w K mg base cl "House" "build" 4 kk_House kk_House 2 .val f_House_build) (F_House_put : FiM P w K mg base cl "House" "put" 9 kk_House kk_House 2 .val f_House_put) (F_walks_L : Fi P w K mg base cl "_law_walks" 1 [false, false] (.own none) f_walks_L) (F_ten_L : Fi P w K mg base cl "_law_ten" 1 [false] .val f_ten_L) (F_House_late : FiM P w K mg base cl "House" "late" 10 kk_House kk_House 4 .val f_House_late) (F_House_walk : FiM P w K mg base cl "House" "walk" 9 kk_House kk_House 3 .val f_House_walk) (F_House_row : FiR P w K mg base cl "House" "row" 2 false [false] (.own none) f_House_row) (F_far : Fi P w K mg base cl "far" 6 [false, false] (.own none) f_far) (F_House_log : FiR P w K mg base cl "House" "log" 2 false [false] (.own none) f_House_log) (F_House_strike : FiM P w K mg base cl "House" "strike" 10 kk_House kk_House 2 .val f_House_strike) : FnOk P w K mg base (L2.CX P w) 11 fa fd ["_law_script"] (spV cl [false] .val f_law) := by
  refine def_okF (ls := [.val, .val, .val, .val, .val, .own none, .val, .val, .val, .val, .val, .val]) (m := m_law) (ks' := []) F sc_law rfl rfl rfl (.inl rfl) (fun cdv A outer s H E h0 s0 b0 hr => ?_)
  exact (sb_cons (ss_set (i := 1) nd_law ((se_call F_numbers_L (hr.mono (by decide)) (sa_b (se_varB (i := 0) (hq := nq__law_script)) (sa_b (se_int).valBor sa_nil)) nq__law_numbers)).toVal)
  (sb_cons (ss_set (i := 2) nd_law ((se_call F_long_row_L (hr.mono (by decide)) (sa_b ((se_slL ((se_var (i := 1) (hq := nq__law_numbers_here))).valBor (so_some (se_int).valBor) so_none)).toBor (sa_b ((se_ix ((se_lst (n := 3) (sa_v se_int (sa_v se_int (sa_v se_int sa_nil))))).toBor ((se_mod ((se_ix ((se_var (i := 1) (hq := nq__law_numbers_here))).valBor (se_int).valBor)).valBor (se_int).valBor)).valBor)).valBor sa_nil)) nq__law_long_row)).toVal)
  (sb_cons (ss_set (i := 3) nd_law (se_make0 K_House (hr.mono (by decide)) nq_House))
  (sb_cons (ss_exprX (sx_meth (i := 3) (C := "House") (nb := 2) F_House_build (hr.mono (by decide)) (sa_v se_str (sa_v ((sf_List B (sa_b ((se_var (i := 2) (hq := nq__law_row_here))).valBor sa_nil))).toVal sa_nil)) nq__law_house kno_House_build))
  (sb_cons (ss_exprX (sx_meth (i := 3) (C := "House") (nb := 2) F_House_build (hr.mono (by decide)) (sa_v se_str (sa_v ((sf_List B (sa_b ((se_var (i := 2) (hq := nq__law_row_here))).valBor sa_nil))).toVal sa_nil)) nq__law_house kno_House_build))
  (sb_cons (ss_set (i := 4) nd_law ((se_add ((se_add ((se_maxD B ((se_var (i := 2) (hq := nq__law_row_here))).valBor se_int)).valBor (se_int).valBor)).toBor ((se_mod ((se_ix ((se_var (i := 1) (hq := nq__law_numbers_here))).valBor (se_int).valBor)).valBor (se_int).valBor)).valBor)).toVal)
  (sb_cons (ss_set (i := 5) nd_law se_int)
  (sb_cons (ss_if (st_cmp (op_eqD hr.units) opv_eq nox_eq ((se_mod ((se_ix ((se_var (i := 1) (hq := nq__law_numbers_here))).valBor (se_int).valBor)).valBor (se_int).valBor)).valBor (se_int).valBor)
  (sb_cons (ss_set (i := 5) nd_law se_int)
  (sb_cons (ss_exprX (sx_meth (i := 3) (C := "House") (nb := 2) F_House_put (hr.mono (by decide)) (sa_v se_str (sa_v (se_var (i := 4) (hq := nq__law_far_place)) sa_nil)) nq__law_house kno_House_put))
  (sb_cons (ss_exprX (sx_meth (i := 3) (C := "House") (nb := 2) F_House_put (hr.mono (by decide)) (sa_v se_str (sa_v (se_var (i := 4) (hq := nq__law_far_place)) sa_nil)) nq__law_house kno_House_put))
  sb_nil)))
  sb_nil)
  (sb_cons (ss_set (i := 6) nd_law (se_lst (n := 0) sa_nil))
  (sb_cons (ss_for (passes_of rfl) rfl (si_it (sq_val ((se_call F_walks_L (hr.mono (by decide)) (sa_b ((se_slL ((se_var (i := 1) (hq := nq__law_numbers_here))).valBor (so_some (se_int).valBor) so_none)).toBor (sa_b (se_int).valBor sa_nil)) nq__law_walks)).toVal)) (sg_tup rfl (sgs_cons nd_law (sgs_cons nd_law sgs_nil))) (fun s => (sb_cons (ss_append (i := 6) (hq := nq__law_walks_here) (se_tup (n := 2) (sa_v (se_var (i := 7) (hq := nq__law_creel)) (sa_v ((se_mul ((se_var (i := 8) (hq := nq__law_count))).valBor ((se_call F_ten_L (hr.mono (by decide)) (sa_b ((se_mod ((se_ix ((se_var (i := 1) (hq := nq__law_numbers_here))).valBor ((se_add (se_int).valBor ((sf_Len B (sa_b (se_varB (i := 6) (hq := nq__law_walks_here)) sa_nil))).valBor)).toBor)).valBor (se_int).valBor)).valBor sa_nil) nq__law_ten)).valBor)).toVal sa_nil))))
  sb_nil)) (by decide))
  (sb_frz (i := 6) (sb_cons (ss_for (passes_of rfl) rfl (si_enumerate B.enumerate (sq_val (se_var (i := 6) (hq := nq__law_walks_here)))) (sg_tup rfl (sgs_cons nd_law (sgs_cons nd_law sgs_nil))) (fun s => (sb_cons (ss_exprX (sx_meth (i := 3) (C := "House") (nb := 4) F_House_late (hr.mono (by decide)) (sa_v se_str (sa_v ((se_add ((se_var (i := 5) (hq := nq__law_start))).valBor ((se_mod ((se_ix ((se_var (i := 1) (hq := nq__law_numbers_here))).valBor ((se_add (se_int).valBor ((se_var (i := 9) (hq := nq__law_k))).valBor)).toBor)).valBor ((se_add ((se_var (i := 9) (hq := nq__law_k))).valBor (se_int).valBor)).toBor)).valBor)).toVal (sa_v (se_ix ((se_var (i := 10) (hq := nq__law_walk))).valBor (se_int).valBor) (sa_v (se_ix ((se_var (i := 10) (hq := nq__law_walk))).valBor (se_int).valBor) sa_nil)))) nq__law_house kno_House_late))
  (sb_cons (ss_exprX (sx_meth (i := 3) (C := "House") (nb := 3) F_House_walk (hr.mono (by decide)) (sa_v se_str (sa_v (se_ix ((se_var (i := 10) (hq := nq__law_walk))).valBor (se_int).valBor) (sa_v (se_ix ((se_var (i := 10) (hq := nq__law_walk))).valBor (se_int).valBor) sa_nil))) nq__law_house kno_House_walk))
  (sb_cons (ss_if (st_cmp (op_neD hr.units) opv_ne nox_ne ((se_methR F_House_row (hr.mono (by decide)) (se_varB (i := 3) (hq := nq__law_house)) (sa_b (se_str).valBor sa_nil))).toBor ((se_methR F_House_row (hr.mono (by decide)) (se_varB (i := 3) (hq := nq__law_house)) (sa_b (se_str).valBor sa_nil))).toBor)
  (sb_cons (ss_ret se_bl)
  sb_nil)
  sb_nil)
  sb_nil)))) (by decide))
  (sb_cons (ss_if (st_cmp (op_neD hr.units) opv_ne nox_ne ((se_call F_far (hr.mono (by decide)) (sa_b ((sf_Sorted B (sa_b ((se_add ((se_var (i := 2) (hq := nq__law_row_here))).valBor ((se_mul ((se_lst (n := 1) (sa_v (se_var (i := 4) (hq := nq__law_far_place)) sa_nil))).toBor ((se_var (i := 5) (hq := nq__law_start))).valBor)).toBor)).toBor sa_nil))).toBor (sa_b ((se_var (i := 6) (hq := nq__law_walks_here))).valBor sa_nil)) nq_far)).toBor ((se_methR F_House_row (hr.mono (by decide)) (se_varB (i := 3) (hq := nq__law_house)) (sa_b (se_str).valBor sa_nil))).toBor)
  (sb_cons (ss_ret se_bl)
  sb_nil)
  sb_nil)
  (sb_cons (ss_for (passes_of rfl) rfl (si_range1 B.range ((sf_Len B (sa_b ((se_var (i := 6) (hq := nq__law_walks_here))).valBor sa_nil))).valBor) (sg_name nd_law) (fun s => (sb_cons (ss_set (i := 11) nd_law ((se_add ((se_var (i := 5) (hq := nq__law_start))).valBor ((se_mod ((se_ix ((se_var (i := 1) (hq := nq__law_numbers_here))).valBor ((se_add (se_int).valBor ((se_var (i := 9) (hq := nq__law_k))).valBor)).toBor)).valBor ((se_sub ((sf_Len B (sa_b ((se_var (i := 6) (hq := nq__law_walks_here))).valBor sa_nil))).valBor ((se_var (i := 9) (hq := nq__law_k))).valBor)).valBor)).valBor)).toVal)
  (sb_cons (ss_set (i := 12) nd_law (se_ix ((se_methR F_House_log (hr.mono (by decide)) (se_varB (i := 3) (hq := nq__law_house)) (sa_b (se_str).valBor sa_nil))).toBor ((se_var (i := 11) (hq := nq__law_at))).valBor))
  (sb_cons (ss_exprX (sx_meth (i := 3) (C := "House") (nb := 2) F_House_strike (hr.mono (by decide)) (sa_v se_str (sa_v (se_var (i := 11) (hq := nq__law_at)) sa_nil)) nq__law_house kno_House_strike))
  (sb_cons (ss_exprX (sx_meth (i := 3) (C := "House") (nb := 3) F_House_walk (hr.mono (by decide)) (sa_v se_str (sa_v (se_ix ((se_var (i := 12) (hq := nq__law_gone))).valBor (se_int).valBor) (sa_v (se_neg ((se_ix ((se_var (i := 12) (hq := nq__law_gone))).valBor (se_int).valBor)).valBor) sa_nil))) nq__law_house kno_House_walk))
  (sb_cons (ss_if (st_cmp (op_neD hr.units) opv_ne nox_ne ((se_methR F_House_row (hr.mono (by decide)) (se_varB (i := 3) (hq := nq__law_house)) (sa_b (se_str).valBor sa_nil))).toBor ((se_methR F_House_row (hr.mono (by decide)) (se_varB (i := 3) (hq := nq__law_house)) (sa_b (se_str).valBor sa_nil))).toBor)
  (sb_cons (ss_ret se_bl)
  sb_nil)
  sb_nil)
  sb_nil)))))) (by decide))
  (sb_cons (ss_ret (se_and (se_cmp (op_eqD hr.units) opv_eq nox_eq ((se_methR F_House_row (hr.mono (by decide)) (se_varB (i := 3) (hq := nq__law_house)) (sa_b (se_str).valBor sa_nil))).toBor ((sf_Sorted B (sa_b ((se_add ((se_var (i := 2) (hq := nq__law_row_here))).valBor ((se_mul ((se_lst (n := 1) (sa_v (se_var (i := 4) (hq := nq__law_far_place)) sa_nil))).toBor ((se_var (i := 5) (hq := nq__law_start))).valBor)).toBor)).toBor sa_nil))).toBor) (se_one (se_cmp (op_eqD hr.units) opv_eq nox_eq ((sf_Len B (sa_b ((se_methR F_House_log (hr.mono (by decide)) (se_varB (i := 3) (hq := nq__law_house)) (sa_b (se_str).valBor sa_nil))).toBor sa_nil))).valBor ((se_add ((se_var (i := 5) (hq := nq__law_start))).valBor ((se_mul (se_int).valBor ((sf_Len B (sa_b ((se_var (i := 6) (hq := nq__law_walks_here))).valBor sa_nil))).valBor)).toBor)).toBor))))
  sb_nil)))))))))))))))
abbrev in_BadRow : Stmt := initS 15
theorem isc_BadRow : FnScope ["self", "at"] ["self", "at"] (defScope in_BadRow) := ⟨rfl, rfl, rfl, by decide +kernel, rfl, by decide +kernel, by decide +kernel⟩
theorem bn_look_row {K : PySem.W.Frag} {fa : Addr} {fd : FuncData} (F : Fun K "look_row" "look_row" st_look_row fa fd) : Binds K fd ["row"] [] := F.binds fun _ _ _ _ _ _ us hl => match us, hl with | [_], _ => rfl
theorem bn_mirrored {K : PySem.W.Frag} {fa : Addr} {fd : FuncData} (F : Fun K "mirrored" "mirrored" st_mirrored fa fd) : Binds K fd ["row"] [] := F.binds fun _ _ _ _ _ _ us hl => match us, hl with | [_], _ => rfl
theorem bn_look_creel {K : PySem.W.Frag} {fa : Addr} {fd : FuncData} (F : Fun K "look_creel" "look_creel" st_look_creel fa fd) : Binds K fd ["creel"] [] := F.binds fun _ _ _ _ _ _ us hl => match us, hl with | [_], _ => rfl
theorem bn_share {K : PySem.W.Frag} {fa : Addr} {fd : FuncData} (F : Fun K "share" "share" st_share fa fd) : Binds K fd ["trains", "size"] [] := F.binds fun _ _ _ _ _ _ us hl => match us, hl with | [_, _], _ => rfl
theorem bn_mark {K : PySem.W.Frag} {fa : Addr} {fd : FuncData} (F : Fun K "mark" "mark" st_mark fa fd) : Binds K fd ["trains", "size", "place"] [] := F.binds fun _ _ _ _ _ _ us hl => match us, hl with | [_, _, _], _ => rfl
theorem bn_longest_ripe {K : PySem.W.Frag} {fa : Addr} {fd : FuncData} (F : Fun K "longest_ripe" "longest_ripe" st_longest_ripe fa fd) : Binds K fd ["found", "place"] [] := F.binds fun _ _ _ _ _ _ us hl => match us, hl with | [_, _], _ => rfl
theorem bn_grown {K : PySem.W.Frag} {fa : Addr} {fd : FuncData} (F : Fun K "grown" "grown" st_grown fa fd) : Binds K fd ["found", "place"] [] := F.binds fun _ _ _ _ _ _ us hl => match us, hl with | [_, _], _ => rfl
theorem bn_list_of {K : PySem.W.Frag} {fa : Addr} {fd : FuncData} (F : Fun K "list_of" "list_of" st_list_of fa fd) : Binds K fd ["row"] [] := F.binds fun _ _ _ _ _ _ us hl => match us, hl with | [_], _ => rfl
theorem bn_next_place {K : PySem.W.Frag} {fa : Addr} {fd : FuncData} (F : Fun K "next_place" "next_place" st_next_place fa fd) : Binds K fd ["left"] [] := F.binds fun _ _ _ _ _ _ us hl => match us, hl with | [_], _ => rfl
theorem bn_shortest_ripe {K : PySem.W.Frag} {fa : Addr} {fd : FuncData} (F : Fun K "shortest_ripe" "shortest_ripe" st_shortest_ripe fa fd) : Binds K fd ["left", "place"] [] := F.binds fun _ _ _ _ _ _ us hl => match us, hl with | [_, _], _ => rfl
theorem bn_shrunk {K : PySem.W.Frag} {fa : Addr} {fd : FuncData} (F : Fun K "shrunk" "shrunk" st_shrunk fa fd) : Binds K fd ["left", "place"] [] := F.binds fun _ _ _ _ _ _ us hl => match us, hl with | [_, _], _ => rfl
theorem bn_stones_of {K : PySem.W.Frag} {fa : Addr} {fd : FuncData} (F : Fun K "stones_of" "stones_of" st_stones_of fa fd) : Binds K fd ["left"] [] := F.binds fun _ _ _ _ _ _ us hl => match us, hl with | [_], _ => rfl
theorem bn_look_walks {K : PySem.W.Frag} {fa : Addr} {fd : FuncData} (F : Fun K "look_walks" "look_walks" st_look_walks fa fd) : Binds K fd ["walks"] [] := F.binds fun _ _ _ _ _ _ us hl => match us, hl with | [_], _ => rfl
theorem bn_by_walks {K : PySem.W.Frag} {fa : Addr} {fd : FuncData} (F : Fun K "by_walks" "by_walks" st_by_walks fa fd) : Binds K fd ["walks", "size"] [] := F.binds fun _ _ _ _ _ _ us hl => match us, hl with | [_, _], _ => rfl
theorem bn_added_to {K : PySem.W.Frag} {fa : Addr} {fd : FuncData} (F : Fun K "added_to" "added_to" st_added_to fa fd) : Binds K fd ["found", "walks"] [] := F.binds fun _ _ _ _ _ _ us hl => match us, hl with | [_, _], _ => rfl
theorem bn_far {K : PySem.W.Frag} {fa : Addr} {fd : FuncData} (F : Fun K "far" "far" st_far fa fd) : Binds K fd ["row", "walks"] [] := F.binds fun _ _ _ _ _ _ us hl => match us, hl with | [_, _], _ => rfl
theorem bn_laid_behind {K : PySem.W.Frag} {fa : Addr} {fd : FuncData} (F : Fun K "laid_behind" "laid_behind" st_laid_behind fa fd) : Binds K fd ["one", "other", "gap"] [] := F.binds fun _ _ _ _ _ _ us hl => match us, hl with | [_, _, _], _ => rfl
theorem bn_put_in {K : PySem.W.Frag} {fa : Addr} {fd : FuncData} (F : Fun K "put_in" "put_in" st_put_in fa fd) : Binds K fd ["row", "place"] [] := F.binds fun _ _ _ _ _ _ us hl => match us, hl with | [_, _], _ => rfl
theorem bn_taken_out {K : PySem.W.Frag} {fa : Addr} {fd : FuncData} (F : Fun K "taken_out" "taken_out" st_taken_out fa fd) : Binds K fd ["row", "place"] [] := F.binds fun _ _ _ _ _ _ us hl => match us, hl with | [_, _], _ => rfl
theorem bn_behind_entry {K : PySem.W.Frag} {fa : Addr} {fd : FuncData} (F : Fun K "behind_entry" "behind_entry" st_behind_entry fa fd) : Binds K fd ["row", "entry"] [] := F.binds fun _ _ _ _ _ _ us hl => match us, hl with | [_, _], _ => rfl
theorem bn_gone_over {K : PySem.W.Frag} {fa : Addr} {fd : FuncData} (F : Fun K "gone_over" "gone_over" st_gone_over fa fd) : Binds K fd ["row", "entries"] [] := F.binds fun _ _ _ _ _ _ us hl => match us, hl with | [_, _], _ => rfl
theorem bn_is_name {K : PySem.W.Frag} {fa : Addr} {fd : FuncData} (F : Fun K "is_name" "is_name" st_is_name fa fd) : Binds K fd ["text"] [] := F.binds fun _ _ _ _ _ _ us hl => match us, hl with | [_], _ => rfl
theorem bn_numbers_L {K : PySem.W.Frag} {fa : Addr} {fd : FuncData} (F : Fun K "_law_numbers" "_law_numbers" st_numbers_L fa fd) : Binds K fd ["_law_script", "_law_many"] [] := F.binds fun _ _ _ _ _ _ us hl => match us, hl with | [_, _], _ => rfl
theorem bn_row_L {K : PySem.W.Frag} {fa : Addr} {fd : FuncData} (F : Fun K "_law_row" "_law_row" st_row_L fa fd) : Binds K fd ["_law_d", "_law_most"] [] := F.binds fun _ _ _ _ _ _ us hl => match us, hl with | [_, _], _ => rfl
theorem bn_long_row_L {K : PySem.W.Frag} {fa : Addr} {fd : FuncData} (F : Fun K "_law_long_row" "_law_long_row" st_long_row_L fa fd) : Binds K fd ["_law_d", "_law_most"] [] := F.binds fun _ _ _ _ _ _ us hl => match us, hl with | [_, _], _ => rfl
theorem bn_walks_L {K : PySem.W.Frag} {fa : Addr} {fd : FuncData} (F : Fun K "_law_walks" "_law_walks" st_walks_L fa fd) : Binds K fd ["_law_d", "_law_many"] [] := F.binds fun _ _ _ _ _ _ us hl => match us, hl with | [_, _], _ => rfl
theorem bn_ten_L {K : PySem.W.Frag} {fa : Addr} {fd : FuncData} (F : Fun K "_law_ten" "_law_ten" st_ten_L fa fd) : Binds K fd ["_law_many"] [] := F.binds fun _ _ _ _ _ _ us hl => match us, hl with | [_], _ => rfl
theorem bl_mk {K : PySem.W.Frag} {h : Heap} {mg : Str → Option Value} (X : K.In h) (G : h.Ns mainGlobals mg) (z_len : PySem.W.nsIn K mainGlobals "len" = some none) (z_range : PySem.W.nsIn K mainGlobals "range" = some none) (z_min : PySem.W.nsIn K mainGlobals "min" = some none) (z_max : PySem.W.nsIn K mainGlobals "max" = some none) (z_abs : PySem.W.nsIn K mainGlobals "abs" = some none) (z_sum : PySem.W.nsIn K mainGlobals "sum" = some none) (z_all : PySem.W.nsIn K mainGlobals "all" = some none) (z_any : PySem.W.nsIn K mainGlobals "any" = some none) (z_sorted : PySem.W.nsIn K mainGlobals "sorted" = some none) (z_list : PySem.W.nsIn K mainGlobals "list" = some none) (z_tuple : PySem.W.nsIn K mainGlobals "tuple" = some none) (z_int : PySem.W.nsIn K mainGlobals "int" = some none) (z_bool : PySem.W.nsIn K mainGlobals "bool" = some none) (z_str : PySem.W.nsIn K mainGlobals "str" = some none) (z_isinstance : PySem.W.nsIn K mainGlobals "isinstance" = some none) (z_zip : PySem.W.nsIn K mainGlobals "zip" = some none) (z_enumerate : PySem.W.nsIn K mainGlobals "enumerate" = some none) (z_reversed : PySem.W.nsIn K mainGlobals "reversed" = some none) (z_set : PySem.W.nsIn K mainGlobals "set" = some none) (z_dict : PySem.W.nsIn K mainGlobals "dict" = some none) : Bl mg := ⟨PySem.W.mg_none_of X G z_len, PySem.W.mg_none_of X G z_range, PySem.W.mg_none_of X G z_min, PySem.W.mg_none_of X G z_max, PySem.W.mg_none_of X G z_abs, PySem.W.mg_none_of X G z_sum, PySem.W.mg_none_of X G z_all, PySem.W.mg_none_of X G z_any, PySem.W.mg_none_of X G z_sorted, PySem.W.mg_none_of X G z_list, PySem.W.mg_none_of X G z_tuple, PySem.W.mg_none_of X G z_int, PySem.W.mg_none_of X G z_bool, PySem.W.mg_none_of X G z_str, PySem.W.mg_none_of X G z_isinstance, PySem.W.mg_none_of X G z_zip, PySem.W.mg_none_of X G z_enumerate, PySem.W.mg_none_of X G z_reversed, PySem.W.mg_none_of X G z_set, PySem.W.mg_none_of X G z_dict⟩
theorem all_mk {l : PySem.W.OpenLaw} {w : World} {K : PySem.W.Frag} {h : Heap} {mg : Str → Option Value} {fa : Addr} {t_LETTERS : Tok} {t_MOST_ROADS : Tok} {t_MOST_SIGNS : Tok} {t_MOST_STONES : Tok} {a_House : Addr} {a_Road : Addr} {i_Road___init__ : Addr} {oc_Road___init__ kV_Road___init__ dc_Road___init__ pm_Road___init__ cd_Road___init__ ct_Road___init__ : Value} {od_Road___init__ an_Road___init__ : Option Addr} {sl_Road___init__ : Array (Option Value)} {i_Road_behind_one : Addr} {oc_Road_behind_one kV_Road_behind_one dc_Road_behind_one pm_Road_behind_one cd_Road_behind_one ct_Road_behind_one : Value} {od_Road_behind_one an_Road_behind_one : Option Addr} {sl_Road_behind_one : Array (Option Value)} {i_Road_anew : Addr} {oc_Road_anew kV_Road_anew dc_Road_anew pm_Road_anew cd_Road_anew ct_Road_anew : Value} {od_Road_anew an_Road_anew : Option Addr} {sl_Road_anew : Array (Option Value)} {i_House___init__ : Addr} {oc_House___init__ kV_House___init__ dc_House___init__ pm_House___init__ cd_House___init__ ct_House___init__ : Value} {od_House___init__ an_House___init__ : Option Addr} {sl_House___init__ : Array (Option Value)} {i_House_road : Addr} {oc_House_road kV_House_road dc_House_road pm_House_road cd_House_road ct_House_road : Value} {od_House_road an_House_road : Option Addr} {sl_House_road : Array (Option Value)} {i_House_become : Addr} {oc_House_become kV_House_become dc_House_become pm_House_become cd_House_become ct_House_become : Value} {od_House_become an_House_become : Option Addr} {sl_House_become : Array (Option Value)} {i_House_build : Addr} {oc_House_build kV_House_build dc_House_build pm_House_build cd_House_build ct_House_build : Value} {od_House_build an_House_build : Option Addr} {sl_House_build : Array (Option Value)} {i_House_walk : Addr} {oc_House_walk kV_House_walk dc_House_walk pm_House_walk cd_House_walk ct_House_walk : Value} {od_House_walk an_House_walk : Option Addr} {sl_House_walk : Array (Option Value)} {i_House_put : Addr} {oc_House_put kV_House_put dc_House_put pm_House_put cd_House_put ct_House_put : Value} {od_House_put an_House_put : Option Addr} {sl_House_put : Array (Option Value)} {i_House_late : Addr} {oc_House_late kV_House_late dc_House_late pm_House_late cd_House_late ct_House_late : Value} {od_House_late an_House_late : Option Addr} {sl_House_late : Array (Option Value)} {i_House_strike : Addr} {oc_House_strike kV_House_strike dc_House_strike pm_House_strike cd_House_strike ct_House_strike : Value} {od_House_strike an_House_strike : Option Addr} {sl_House_strike : Array (Option Value)} {i_House_row : Addr} {oc_House_row kV_House_row dc_House_row pm_House_row cd_House_row ct_House_row : Value} {od_House_row an_House_row : Option Addr} {sl_House_row : Array (Option Value)} {i_House_log : Addr} {oc_House_log kV_House_log dc_House_log pm_House_log cd_House_log ct_House_log : Value} {od_House_log an_House_log : Option Addr} {sl_House_log : Array (Option Value)} {a_BadRow : Addr} {i_BadRow : Addr} {nm_BadRow q_BadRow : Str} {N_BadRow : Addr} {bs_BadRow bm_BadRow sub_BadRow : List Value} {sn_BadRow : List Str} {ab_BadRow : Bool} {col_BadRow : Option Bool} {dd_BadRow : Option Addr} {m0_BadRow m1_BadRow m2_BadRow m3_BadRow m5_BadRow : Option Value} {oc_BadRow kV_BadRow dc_BadRow pm_BadRow cd_BadRow ct_BadRow : Value} {od_BadRow an_BadRow : Option Addr} {sl_BadRow : Array (Option Value)} {a_BadCreel : Addr} {a_BadName : Addr} {a_Bare : Addr} {a_Full : Addr} {a_Laid : Addr} {a_NoEntry : Addr} {a_NoRoad : Addr} {a_NoStone : Addr} {a_NotWalk : Addr} {a_Taken : Addr} {a_TooMany : Addr} {a_TooNear : Addr} {a_CreelError : Addr} (X : K.In h) (G : h.Ns mainGlobals mg) (hfa : mg "law" = some (.ref fa))  (C_LETTERS : PySem.W.nsIn K mainGlobals "LETTERS" = some (some (.str "abcdefghijklmnopqrstuvwxyz" t_LETTERS))) (C_MOST_ROADS : PySem.W.nsIn K mainGlobals "MOST_ROADS" = some (some (.int 8 t_MOST_ROADS))) (C_MOST_SIGNS : PySem.W.nsIn K mainGlobals "MOST_SIGNS" = some (some (.int 8 t_MOST_SIGNS))) (C_MOST_STONES : PySem.W.nsIn K mainGlobals "MOST_STONES" = some (some (.int 60 t_MOST_STONES))) (g_House : PySem.W.nsIn K mainGlobals "House" = some (some (.ref a_House))) (pg_House : PySem.W.plainGet K a_House Str.empty = true) (hd_House : PySem.W.hasDictIn K a_House = true) (po_House : PySem.W.plainOver K a_House = true) (sa_House : PySem.W.findIn K (.ref a_House) "__setattr__" = some (some (.builtin "object.__setattr__"))) (mk_House : PySem.W.makesIn K a_House = true) (kc_House : PySem.W.keepIn K (.ref a_House) = true) (g_Road : PySem.W.nsIn K mainGlobals "Road" = some (some (.ref a_Road))) (pg_Road : PySem.W.plainGet K a_Road Str.empty = true) (hd_Road : PySem.W.hasDictIn K a_Road = true) (po_Road : PySem.W.plainOver K a_Road = true) (sa_Road : PySem.W.findIn K (.ref a_Road) "__setattr__" = some (some (.builtin "object.__setattr__"))) (mk_Road : PySem.W.makesIn K a_Road = true) (kc_Road : PySem.W.keepIn K (.ref a_Road) = true) (nf_House_by_name : PySem.W.findIn K (.ref a_House) "by_name" = some none) (nf_House_done : PySem.W.findIn K (.ref a_House) "done" = some none) (nf_House_gone : PySem.W.findIn K (.ref a_House) "gone" = some none) (nf_Road_entries : PySem.W.findIn K (.ref a_Road) "entries" = some none) (nf_Road_first : PySem.W.findIn K (.ref a_Road) "first" = some none) (nf_Road_now : PySem.W.findIn K (.ref a_Road) "now" = some none) (fi_Road___init__ : PySem.W.findIn K (.ref a_Road) "__init__" = some (some (.ref i_Road___init__))) (ifn_Road___init__ : PySem.W.isFn K (.ref i_Road___init__) = true) (li_Road___init__ : K.lookup i_Road___init__ = some ⟨oc_Road___init__, od_Road___init__, .func (PySem.W.fnOf "__init__" "Road.__init__" (defArgs st_Road___init__) (defBody st_Road___init__) (defScope st_Road___init__) .none kV_Road___init__ dc_Road___init__ pm_Road___init__ an_Road___init__ cd_Road___init__ ct_Road___init__), sl_Road___init__⟩) (ci_Road___init__ : PySem.W.codeIn K cd_Road___init__ "Road.__init__" = true) (ki_Road___init__ : PySem.W.keepIn K (.ref i_Road___init__) = true) (fi_Road_behind_one : PySem.W.findIn K (.ref a_Road) "behind_one" = some (some (.ref i_Road_behind_one))) (ifn_Road_behind_one : PySem.W.isFn K (.ref i_Road_behind_one) = true) (li_Road_behind_one : K.lookup i_Road_behind_one = some ⟨oc_Road_behind_one, od_Road_behind_one, .func (PySem.W.fnOf "behind_one" "Road.behind_one" (defArgs st_Road_behind_one) (defBody st_Road_behind_one) (defScope st_Road_behind_one) .none kV_Road_behind_one dc_Road_behind_one pm_Road_behind_one an_Road_behind_one cd_Road_behind_one ct_Road_behind_one), sl_Road_behind_one⟩) (ci_Road_behind_one : PySem.W.codeIn K cd_Road_behind_one "Road.behind_one" = true) (ki_Road_behind_one : PySem.W.keepIn K (.ref i_Road_behind_one) = true) (fi_Road_anew : PySem.W.findIn K (.ref a_Road) "anew" = some (some (.ref i_Road_anew))) (ifn_Road_anew : PySem.W.isFn K (.ref i_Road_anew) = true) (li_Road_anew : K.lookup i_Road_anew = some ⟨oc_Road_anew, od_Road_anew, .func (PySem.W.fnOf "anew" "Road.anew" (defArgs st_Road_anew) (defBody st_Road_anew) (defScope st_Road_anew) .none kV_Road_anew dc_Road_anew pm_Road_anew an_Road_anew cd_Road_anew ct_Road_anew), sl_Road_anew⟩) (ci_Road_anew : PySem.W.codeIn K cd_Road_anew "Road.anew" = true) (ki_Road_anew : PySem.W.keepIn K (.ref i_Road_anew) = true) (fi_House___init__ : PySem.W.findIn K (.ref a_House) "__init__" = some (some (.ref i_House___init__))) (ifn_House___init__ : PySem.W.isFn K (.ref i_House___init__) = true) (li_House___init__ : K.lookup i_House___init__ = some ⟨oc_House___init__, od_House___init__, .func (PySem.W.fnOf "__init__" "House.__init__" (defArgs st_House___init__) (defBody st_House___init__) (defScope st_House___init__) .none kV_House___init__ dc_House___init__ pm_House___init__ an_House___init__ cd_House___init__ ct_House___init__), sl_House___init__⟩) (ci_House___init__ : PySem.W.codeIn K cd_House___init__ "House.__init__" = true) (ki_House___init__ : PySem.W.keepIn K (.ref i_House___init__) = true) (fi_House_road : PySem.W.findIn K (.ref a_House) "road" = some (some (.ref i_House_road))) (ifn_House_road : PySem.W.isFn K (.ref i_House_road) = true) (li_House_road : K.lookup i_House_road = some ⟨oc_House_road, od_House_road, .func (PySem.W.fnOf "road" "House.road" (defArgs st_House_road) (defBody st_House_road) (defScope st_House_road) .none kV_House_road dc_House_road pm_House_road an_House_road cd_House_road ct_House_road), sl_House_road⟩) (ci_House_road : PySem.W.codeIn K cd_House_road "House.road" = true) (ki_House_road : PySem.W.keepIn K (.ref i_House_road) = true) (fi_House_become : PySem.W.findIn K (.ref a_House) "become" = some (some (.ref i_House_become))) (ifn_House_become : PySem.W.isFn K (.ref i_House_become) = true) (li_House_become : K.lookup i_House_become = some ⟨oc_House_become, od_House_become, .func (PySem.W.fnOf "become" "House.become" (defArgs st_House_become) (defBody st_House_become) (defScope st_House_become) .none kV_House_become dc_House_become pm_House_become an_House_become cd_House_become ct_House_become), sl_House_become⟩) (ci_House_become : PySem.W.codeIn K cd_House_become "House.become" = true) (ki_House_become : PySem.W.keepIn K (.ref i_House_become) = true) (fi_House_build : PySem.W.findIn K (.ref a_House) "build" = some (some (.ref i_House_build))) (ifn_House_build : PySem.W.isFn K (.ref i_House_build) = true) (li_House_build : K.lookup i_House_build = some ⟨oc_House_build, od_House_build, .func (PySem.W.fnOf "build" "House.build" (defArgs st_House_build) (defBody st_House_build) (defScope st_House_build) .none kV_House_build dc_House_build pm_House_build an_House_build cd_House_build ct_House_build), sl_House_build⟩) (ci_House_build : PySem.W.codeIn K cd_House_build "House.build" = true) (ki_House_build : PySem.W.keepIn K (.ref i_House_build) = true) (fi_House_walk : PySem.W.findIn K (.ref a_House) "walk" = some (some (.ref i_House_walk))) (ifn_House_walk : PySem.W.isFn K (.ref i_House_walk) = true) (li_House_walk : K.lookup i_House_walk = some ⟨oc_House_walk, od_House_walk, .func (PySem.W.fnOf "walk" "House.walk" (defArgs st_House_walk) (defBody st_House_walk) (defScope st_House_walk) .none kV_House_walk dc_House_walk pm_House_walk an_House_walk cd_House_walk ct_House_walk), sl_House_walk⟩) (ci_House_walk : PySem.W.codeIn K cd_House_walk "House.walk" = true) (ki_House_walk : PySem.W.keepIn K (.ref i_House_walk) = true) (fi_House_put : PySem.W.findIn K (.ref a_House) "put" = some (some (.ref i_House_put))) (ifn_House_put : PySem.W.isFn K (.ref i_House_put) = true) (li_House_put : K.lookup i_House_put = some ⟨oc_House_put, od_House_put, .func (PySem.W.fnOf "put" "House.put" (defArgs st_House_put) (defBody st_House_put) (defScope st_House_put) .none kV_House_put dc_House_put pm_House_put an_House_put cd_House_put ct_House_put), sl_House_put⟩) (ci_House_put : PySem.W.codeIn K cd_House_put "House.put" = true) (ki_House_put : PySem.W.keepIn K (.ref i_House_put) = true) (fi_House_late : PySem.W.findIn K (.ref a_House) "late" = some (some (.ref i_House_late))) (ifn_House_late : PySem.W.isFn K (.ref i_House_late) = true) (li_House_late : K.lookup i_House_late = some ⟨oc_House_late, od_House_late, .func (PySem.W.fnOf "late" "House.late" (defArgs st_House_late) (defBody st_House_late) (defScope st_House_late) .none kV_House_late dc_House_late pm_House_late an_House_late cd_House_late ct_House_late), sl_House_late⟩) (ci_House_late : PySem.W.codeIn K cd_House_late "House.late" = true) (ki_House_late : PySem.W.keepIn K (.ref i_House_late) = true) (fi_House_strike : PySem.W.findIn K (.ref a_House) "strike" = some (some (.ref i_House_strike))) (ifn_House_strike : PySem.W.isFn K (.ref i_House_strike) = true) (li_House_strike : K.lookup i_House_strike = some ⟨oc_House_strike, od_House_strike, .func (PySem.W.fnOf "strike" "House.strike" (defArgs st_House_strike) (defBody st_House_strike) (defScope st_House_strike) .none kV_House_strike dc_House_strike pm_House_strike an_House_strike cd_House_strike ct_House_strike), sl_House_strike⟩) (ci_House_strike : PySem.W.codeIn K cd_House_strike "House.strike" = true) (ki_House_strike : PySem.W.keepIn K (.ref i_House_strike) = true) (fi_House_row : PySem.W.findIn K (.ref a_House) "row" = some (some (.ref i_House_row))) (ifn_House_row : PySem.W.isFn K (.ref i_House_row) = true) (li_House_row : K.lookup i_House_row = some ⟨oc_House_row, od_House_row, .func (PySem.W.fnOf "row" "House.row" (defArgs st_House_row) (defBody st_House_row) (defScope st_House_row) .none kV_House_row dc_House_row pm_House_row an_House_row cd_House_row ct_House_row), sl_House_row⟩) (ci_House_row : PySem.W.codeIn K cd_House_row "House.row" = true) (ki_House_row : PySem.W.keepIn K (.ref i_House_row) = true) (fi_House_log : PySem.W.findIn K (.ref a_House) "log" = some (some (.ref i_House_log))) (ifn_House_log : PySem.W.isFn K (.ref i_House_log) = true) (li_House_log : K.lookup i_House_log = some ⟨oc_House_log, od_House_log, .func (PySem.W.fnOf "log" "House.log" (defArgs st_House_log) (defBody st_House_log) (defScope st_House_log) .none kV_House_log dc_House_log pm_House_log an_House_log cd_House_log ct_House_log), sl_House_log⟩) (ci_House_log : PySem.W.codeIn K cd_House_log "House.log" = true) (ki_House_log : PySem.W.keepIn K (.ref i_House_log) = true) (g_BadRow : PySem.W.nsIn K mainGlobals "BadRow" = some (some (.ref a_BadRow))) (k_BadRow : PySem.W.keepIn K (.ref a_BadRow) = true) (s_BadRow : PySem.W.subIn K (.ref a_BadRow) (.type "BaseException") = some true) (t_BadRow : PySem.W.typeIn K (.ref a_BadRow) = some (.type "type")) (l_BadRow : K.lookup a_BadRow = some (excClassObj nm_BadRow q_BadRow a_BadRow N_BadRow bs_BadRow bm_BadRow true sn_BadRow sub_BadRow ab_BadRow col_BadRow dd_BadRow m0_BadRow m1_BadRow m2_BadRow m3_BadRow m5_BadRow "ValueError.__new__")) (r_BadRow : PySem.HandSPX.refsVE bm_BadRow = true) (sa_BadRow : PySem.W.findIn K (.ref a_BadRow) "__setattr__" = some (some (.builtin "object.__setattr__"))) (no_BadRow : PySem.W.findIn K (.ref a_BadRow) "at" = some none) (jn_BadRow : PySem.W.findIn K (.ref a_BadRow) "__init__" = some (some (.ref i_BadRow))) (ti_BadRow : PySem.W.typeIn K (.ref i_BadRow) = some (.type "function")) (li_BadRow : K.lookup i_BadRow = some ⟨oc_BadRow, od_BadRow, .func (PySem.W.fnOf "__init__" "BadRow.__init__" (defArgs in_BadRow) (defBody in_BadRow) (defScope in_BadRow) .none kV_BadRow dc_BadRow pm_BadRow an_BadRow cd_BadRow ct_BadRow), sl_BadRow⟩) (ci_BadRow : PySem.W.codeIn K cd_BadRow "BadRow.__init__" = true) (ki_BadRow : PySem.W.keepIn K (.ref i_BadRow) = true) (g_BadCreel : PySem.W.nsIn K mainGlobals "BadCreel" = some (some (.ref a_BadCreel))) (x_BadCreel : PySem.W.excIn K a_BadCreel [.type "ValueError", .type "Exception", .type "BaseException", .type "object"] "ValueError.__new__" = true) (k_BadCreel : PySem.W.keepIn K (.ref a_BadCreel) = true) (s_BadCreel : PySem.W.subIn K (.ref a_BadCreel) (.type "BaseException") = some true) (t_BadCreel : PySem.W.typeIn K (.ref a_BadCreel) = some (.type "type")) (g_BadName : PySem.W.nsIn K mainGlobals "BadName" = some (some (.ref a_BadName))) (x_BadName : PySem.W.excIn K a_BadName [.type "ValueError", .type "Exception", .type "BaseException", .type "object"] "ValueError.__new__" = true) (k_BadName : PySem.W.keepIn K (.ref a_BadName) = true) (s_BadName : PySem.W.subIn K (.ref a_BadName) (.type "BaseException") = some true) (t_BadName : PySem.W.typeIn K (.ref a_BadName) = some (.type "type")) (g_Bare : PySem.W.nsIn K mainGlobals "Bare" = some (some (.ref a_Bare))) (x_Bare : PySem.W.excIn K a_Bare [.type "ValueError", .type "Exception", .type "BaseException", .type "object"] "ValueError.__new__" = true) (k_Bare : PySem.W.keepIn K (.ref a_Bare) = true) (s_Bare : PySem.W.subIn K (.ref a_Bare) (.type "BaseException") = some true) (t_Bare : PySem.W.typeIn K (.ref a_Bare) = some (.type "type")) (g_Full : PySem.W.nsIn K mainGlobals "Full" = some (some (.ref a_Full))) (x_Full : PySem.W.excIn K a_Full [.type "ValueError", .type "Exception", .type "BaseException", .type "object"] "ValueError.__new__" = true) (k_Full : PySem.W.keepIn K (.ref a_Full) = true) (s_Full : PySem.W.subIn K (.ref a_Full) (.type "BaseException") = some true) (t_Full : PySem.W.typeIn K (.ref a_Full) = some (.type "type")) (g_Laid : PySem.W.nsIn K mainGlobals "Laid" = some (some (.ref a_Laid))) (x_Laid : PySem.W.excIn K a_Laid [.type "ValueError", .type "Exception", .type "BaseException", .type "object"] "ValueError.__new__" = true) (k_Laid : PySem.W.keepIn K (.ref a_Laid) = true) (s_Laid : PySem.W.subIn K (.ref a_Laid) (.type "BaseException") = some true) (t_Laid : PySem.W.typeIn K (.ref a_Laid) = some (.type "type")) (g_NoEntry : PySem.W.nsIn K mainGlobals "NoEntry" = some (some (.ref a_NoEntry))) (x_NoEntry : PySem.W.excIn K a_NoEntry [.type "ValueError", .type "Exception", .type "BaseException", .type "object"] "ValueError.__new__" = true) (k_NoEntry : PySem.W.keepIn K (.ref a_NoEntry) = true) (s_NoEntry : PySem.W.subIn K (.ref a_NoEntry) (.type "BaseException") = some true) (t_NoEntry : PySem.W.typeIn K (.ref a_NoEntry) = some (.type "type")) (g_NoRoad : PySem.W.nsIn K mainGlobals "NoRoad" = some (some (.ref a_NoRoad))) (x_NoRoad : PySem.W.excIn K a_NoRoad [.type "ValueError", .type "Exception", .type "BaseException", .type "object"] "ValueError.__new__" = true) (k_NoRoad : PySem.W.keepIn K (.ref a_NoRoad) = true) (s_NoRoad : PySem.W.subIn K (.ref a_NoRoad) (.type "BaseException") = some true) (t_NoRoad : PySem.W.typeIn K (.ref a_NoRoad) = some (.type "type")) (g_NoStone : PySem.W.nsIn K mainGlobals "NoStone" = some (some (.ref a_NoStone))) (x_NoStone : PySem.W.excIn K a_NoStone [.type "ValueError", .type "Exception", .type "BaseException", .type "object"] "ValueError.__new__" = true) (k_NoStone : PySem.W.keepIn K (.ref a_NoStone) = true) (s_NoStone : PySem.W.subIn K (.ref a_NoStone) (.type "BaseException") = some true) (t_NoStone : PySem.W.typeIn K (.ref a_NoStone) = some (.type "type")) (g_NotWalk : PySem.W.nsIn K mainGlobals "NotWalk" = some (some (.ref a_NotWalk))) (x_NotWalk : PySem.W.excIn K a_NotWalk [.type "ValueError", .type "Exception", .type "BaseException", .type "object"] "ValueError.__new__" = true) (k_NotWalk : PySem.W.keepIn K (.ref a_NotWalk) = true) (s_NotWalk : PySem.W.subIn K (.ref a_NotWalk) (.type "BaseException") = some true) (t_NotWalk : PySem.W.typeIn K (.ref a_NotWalk) = some (.type "type")) (g_Taken : PySem.W.nsIn K mainGlobals "Taken" = some (some (.ref a_Taken))) (x_Taken : PySem.W.excIn K a_Taken [.type "ValueError", .type "Exception", .type "BaseException", .type "object"] "ValueError.__new__" = true) (k_Taken : PySem.W.keepIn K (.ref a_Taken) = true) (s_Taken : PySem.W.subIn K (.ref a_Taken) (.type "BaseException") = some true) (t_Taken : PySem.W.typeIn K (.ref a_Taken) = some (.type "type")) (g_TooMany : PySem.W.nsIn K mainGlobals "TooMany" = some (some (.ref a_TooMany))) (x_TooMany : PySem.W.excIn K a_TooMany [.type "ValueError", .type "Exception", .type "BaseException", .type "object"] "ValueError.__new__" = true) (k_TooMany : PySem.W.keepIn K (.ref a_TooMany) = true) (s_TooMany : PySem.W.subIn K (.ref a_TooMany) (.type "BaseException") = some true) (t_TooMany : PySem.W.typeIn K (.ref a_TooMany) = some (.type "type")) (g_TooNear : PySem.W.nsIn K mainGlobals "TooNear" = some (some (.ref a_TooNear))) (x_TooNear : PySem.W.excIn K a_TooNear [.type "ValueError", .type "Exception", .type "BaseException", .type "object"] "ValueError.__new__" = true) (k_TooNear : PySem.W.keepIn K (.ref a_TooNear) = true) (s_TooNear : PySem.W.subIn K (.ref a_TooNear) (.type "BaseException") = some true) (t_TooNear : PySem.W.typeIn K (.ref a_TooNear) = some (.type "type")) (g_CreelError : PySem.W.nsIn K mainGlobals "CreelError" = some (some (.ref a_CreelError))) (bb_CreelError : PySem.W.subIn K (.ref a_CreelError) (.type "BaseException") = some true) (ii_CreelError : PySem.W.isClsIn K a_CreelError = true) (tt_CreelError : PySem.W.typeIn K (.ref a_CreelError) = some (.type "type")) (e_BadRow_CreelError : PySem.W.subIn K (.ref a_BadRow) (.ref a_CreelError) = some true) (e_BadCreel_CreelError : PySem.W.subIn K (.ref a_BadCreel) (.ref a_CreelError) = some true) (e_BadName_CreelError : PySem.W.subIn K (.ref a_BadName) (.ref a_CreelError) = some true) (e_Bare_CreelError : PySem.W.subIn K (.ref a_Bare) (.ref a_CreelError) = some true) (e_Full_CreelError : PySem.W.subIn K (.ref a_Full) (.ref a_CreelError) = some true) (e_Laid_CreelError : PySem.W.subIn K (.ref a_Laid) (.ref a_CreelError) = some true) (e_NoEntry_CreelError : PySem.W.subIn K (.ref a_NoEntry) (.ref a_CreelError) = some true) (e_NoRoad_CreelError : PySem.W.subIn K (.ref a_NoRoad) (.ref a_CreelError) = some true) (e_NoStone_CreelError : PySem.W.subIn K (.ref a_NoStone) (.ref a_CreelError) = some true) (e_NotWalk_CreelError : PySem.W.subIn K (.ref a_NotWalk) (.ref a_CreelError) = some true) (e_Taken_CreelError : PySem.W.subIn K (.ref a_Taken) (.ref a_CreelError) = some true) (e_TooMany_CreelError : PySem.W.subIn K (.ref a_TooMany) (.ref a_CreelError) = some true) (e_TooNear_CreelError : PySem.W.subIn K (.ref a_TooNear) (.ref a_CreelError) = some true) (A_look_row : AtF K mg "look_row" "look_row" st_look_row) (A_mirrored : AtF K mg "mirrored" "mirrored" st_mirrored) (A_look_creel : AtF K mg "look_creel" "look_creel" st_look_creel) (A_share : AtF K mg "share" "share" st_share) (A_mark : AtF K mg "mark" "mark" st_mark) (A_longest_ripe : AtF K mg "longest_ripe" "longest_ripe" st_longest_ripe) (A_grown : AtF K mg "grown" "grown" st_grown) (A_list_of : AtF K mg "list_of" "list_of" st_list_of) (A_next_place : AtF K mg "next_place" "next_place" st_next_place) (A_shortest_ripe : AtF K mg "shortest_ripe" "shortest_ripe" st_shortest_ripe) (A_shrunk : AtF K mg "shrunk" "shrunk" st_shrunk) (A_stones_of : AtF K mg "stones_of" "stones_of" st_stones_of) (A_look_walks : AtF K mg "look_walks" "look_walks" st_look_walks) (A_by_walks : AtF K mg "by_walks" "by_walks" st_by_walks) (A_added_to : AtF K mg "added_to" "added_to" st_added_to) (A_far : AtF K mg "far" "far" st_far) (A_laid_behind : AtF K mg "laid_behind" "laid_behind" st_laid_behind) (A_put_in : AtF K mg "put_in" "put_in" st_put_in) (A_taken_out : AtF K mg "taken_out" "taken_out" st_taken_out) (A_behind_entry : AtF K mg "behind_entry" "behind_entry" st_behind_entry) (A_gone_over : AtF K mg "gone_over" "gone_over" st_gone_over) (A_is_name : AtF K mg "is_name" "is_name" st_is_name) (A_numbers_L : AtF K mg "_law_numbers" "_law_numbers" st_numbers_L) (A_row_L : AtF K mg "_law_row" "_law_row" st_row_L) (A_long_row_L : AtF K mg "_law_long_row" "_law_long_row" st_long_row_L) (A_walks_L : AtF K mg "_law_walks" "_law_walks" st_walks_L) (A_ten_L : AtF K mg "_law_ten" "_law_ten" st_ten_L) (A_law : AtF K mg "law" "law" st_law) (z_len : PySem.W.nsIn K mainGlobals "len" = some none) (z_range : PySem.W.nsIn K mainGlobals "range" = some none) (z_min : PySem.W.nsIn K mainGlobals "min" = some none) (z_max : PySem.W.nsIn K mainGlobals "max" = some none) (z_abs : PySem.W.nsIn K mainGlobals "abs" = some none) (z_sum : PySem.W.nsIn K mainGlobals "sum" = some none) (z_all : PySem.W.nsIn K mainGlobals "all" = some none) (z_any : PySem.W.nsIn K mainGlobals "any" = some none) (z_sorted : PySem.W.nsIn K mainGlobals "sorted" = some none) (z_list : PySem.W.nsIn K mainGlobals "list" = some none) (z_tuple : PySem.W.nsIn K mainGlobals "tuple" = some none) (z_int : PySem.W.nsIn K mainGlobals "int" = some none) (z_bool : PySem.W.nsIn K mainGlobals "bool" = some none) (z_str : PySem.W.nsIn K mainGlobals "str" = some none) (z_isinstance : PySem.W.nsIn K mainGlobals "isinstance" = some none) (z_zip : PySem.W.nsIn K mainGlobals "zip" = some none) (z_enumerate : PySem.W.nsIn K mainGlobals "enumerate" = some none) (z_reversed : PySem.W.nsIn K mainGlobals "reversed" = some none) (z_set : PySem.W.nsIn K mainGlobals "set" = some none) (z_dict : PySem.W.nsIn K mainGlobals "dict" = some none) :
    ∃ fd : FuncData, (∀ (s : Shared) (v : Value), BindsTo s fd ⟨[v], []⟩ [("_law_script", v)]) ∧ ∀ base : Heap, K.In base → base.Ns mainGlobals mg → FnOk l.prog w K mg base (L2.CX l.prog w) 65 fa fd ["_law_script"] (spLaw K) := by
  obtain ⟨fa_look_row, fd_look_row, F_look_row, g_look_row⟩ := A_look_row.ex
  obtain ⟨fa_mirrored, fd_mirrored, F_mirrored, g_mirrored⟩ := A_mirrored.ex
  obtain ⟨fa_look_creel, fd_look_creel, F_look_creel, g_look_creel⟩ := A_look_creel.ex
  obtain ⟨fa_share, fd_share, F_share, g_share⟩ := A_share.ex
  obtain ⟨fa_mark, fd_mark, F_mark, g_mark⟩ := A_mark.ex
  obtain ⟨fa_longest_ripe, fd_longest_ripe, F_longest_ripe, g_longest_ripe⟩ := A_longest_ripe.ex
  obtain ⟨fa_grown, fd_grown, F_grown, g_grown⟩ := A_grown.ex
  obtain ⟨fa_list_of, fd_list_of, F_list_of, g_list_of⟩ := A_list_of.ex
  obtain ⟨fa_next_place, fd_next_place, F_next_place, g_next_place⟩ := A_next_place.ex
  obtain ⟨fa_shortest_ripe, fd_shortest_ripe, F_shortest_ripe, g_shortest_ripe⟩ := A_shortest_ripe.ex
  obtain ⟨fa_shrunk, fd_shrunk, F_shrunk, g_shrunk⟩ := A_shrunk.ex
  obtain ⟨fa_stones_of, fd_stones_of, F_stones_of, g_stones_of⟩ := A_stones_of.ex
  obtain ⟨fa_look_walks, fd_look_walks, F_look_walks, g_look_walks⟩ := A_look_walks.ex
  obtain ⟨fa_by_walks, fd_by_walks, F_by_walks, g_by_walks⟩ := A_by_walks.ex
  obtain ⟨fa_added_to, fd_added_to, F_added_to, g_added_to⟩ := A_added_to.ex
  obtain ⟨fa_far, fd_far, F_far, g_far⟩ := A_far.ex
  obtain ⟨fa_laid_behind, fd_laid_behind, F_laid_behind, g_laid_behind⟩ := A_laid_behind.ex
  obtain ⟨fa_put_in, fd_put_in, F_put_in, g_put_in⟩ := A_put_in.ex
  obtain ⟨fa_taken_out, fd_taken_out, F_taken_out, g_taken_out⟩ := A_taken_out.ex
  obtain ⟨fa_behind_entry, fd_behind_entry, F_behind_entry, g_behind_entry⟩ := A_behind_entry.ex
  obtain ⟨fa_gone_over, fd_gone_over, F_gone_over, g_gone_over⟩ := A_gone_over.ex
  obtain ⟨fa_is_name, fd_is_name, F_is_name, g_is_name⟩ := A_is_name.ex
  obtain ⟨fa_numbers_L, fd_numbers_L, F_numbers_L, g_numbers_L⟩ := A_numbers_L.ex
  obtain ⟨fa_row_L, fd_row_L, F_row_L, g_row_L⟩ := A_row_L.ex
  obtain ⟨fa_long_row_L, fd_long_row_L, F_long_row_L, g_long_row_L⟩ := A_long_row_L.ex
  obtain ⟨fa_walks_L, fd_walks_L, F_walks_L, g_walks_L⟩ := A_walks_L.ex
  obtain ⟨fa_ten_L, fd_ten_L, F_ten_L, g_ten_L⟩ := A_ten_L.ex
  obtain ⟨fa_law, fd_law, F_law, g_law⟩ := A_law.ex
  have e := hfa.symm.trans g_law
  cases e
  have B := bl_mk X G z_len z_range z_min z_max z_abs z_sum z_all z_any z_sorted z_list z_tuple z_int z_bool z_str z_isinstance z_zip z_enumerate z_reversed z_set z_dict
  have F := F_law
  obtain ⟨oc, od, kV, doc, pm, an, cdv, ct, osl, e, lk, hcd⟩ := F_law.ex
  subst e
  refine ⟨PySem.W.fnOf "law" "law" (defArgs st_law) (defBody st_law) (defScope st_law) .none kV doc pm an cdv ct, fun s v => .of_eq rfl, fun base _ _ => ?_⟩
  let cl : Cl := ⟨fun n => List.lookup n [("BadRow", a_BadRow), ("BadCreel", a_BadCreel), ("BadName", a_BadName), ("Bare", a_Bare), ("Full", a_Full), ("Laid", a_Laid), ("NoEntry", a_NoEntry), ("NoRoad", a_NoRoad), ("NoStone", a_NoStone), ("NotWalk", a_NotWalk), ("Taken", a_Taken), ("TooMany", a_TooMany), ("TooNear", a_TooNear)], K, fun n => List.lookup n [("House", a_House), ("Road", a_Road)]⟩
  have hK : cl.K = K := rfl
  have cf_House : cl.o "House" = some a_House := by rfl
  have cc_House : Cls K a_House := ⟨pg_House, hd_House, po_House, sa_House⟩
  have gm_House := PySem.W.mg_of X G g_House
  have cf_Road : cl.o "Road" = some a_Road := by rfl
  have cc_Road : Cls K a_Road := ⟨pg_Road, hd_Road, po_Road, sa_Road⟩
  have gm_Road := PySem.W.mg_of X G g_Road
  have O_House_by_name : FldOk K cl "House" "by_name" := fun c hc => by rw [cf_House] at hc; cases hc; exact ⟨cc_House, nf_House_by_name⟩
  have O_House_done : FldOk K cl "House" "done" := fun c hc => by rw [cf_House] at hc; cases hc; exact ⟨cc_House, nf_House_done⟩
  have O_House_gone : FldOk K cl "House" "gone" := fun c hc => by rw [cf_House] at hc; cases hc; exact ⟨cc_House, nf_House_gone⟩
  have O_Road_entries : FldOk K cl "Road" "entries" := fun c hc => by rw [cf_Road] at hc; cases hc; exact ⟨cc_Road, nf_Road_entries⟩
  have O_Road_first : FldOk K cl "Road" "first" := fun c hc => by rw [cf_Road] at hc; cases hc; exact ⟨cc_Road, nf_Road_first⟩
  have O_Road_now : FldOk K cl "Road" "now" := fun c hc => by rw [cf_Road] at hc; cases hc; exact ⟨cc_Road, nf_Road_now⟩
  have F_Road___init__ := fun_mk (st := st_Road___init__) li_Road___init__ ci_Road___init__ ki_Road___init__
  have F_Road_behind_one := fun_mk (st := st_Road_behind_one) li_Road_behind_one ci_Road_behind_one ki_Road_behind_one
  have F_Road_anew := fun_mk (st := st_Road_anew) li_Road_anew ci_Road_anew ki_Road_anew
  have F_House___init__ := fun_mk (st := st_House___init__) li_House___init__ ci_House___init__ ki_House___init__
  have F_House_road := fun_mk (st := st_House_road) li_House_road ci_House_road ki_House_road
  have F_House_become := fun_mk (st := st_House_become) li_House_become ci_House_become ki_House_become
  have M_House_become : ∀ c, cl.o "House" = some c → Cls K c ∧ Meth K c "become" i_House_become := fun c hc => by rw [cf_House] at hc; cases hc; exact ⟨cc_House, ⟨fi_House_become, ifn_House_become, ki_House_become⟩⟩
  have F_House_build := fun_mk (st := st_House_build) li_House_build ci_House_build ki_House_build
  have M_House_build : ∀ c, cl.o "House" = some c → Cls K c ∧ Meth K c "build" i_House_build := fun c hc => by rw [cf_House] at hc; cases hc; exact ⟨cc_House, ⟨fi_House_build, ifn_House_build, ki_House_build⟩⟩
  have F_House_walk := fun_mk (st := st_House_walk) li_House_walk ci_House_walk ki_House_walk
  have M_House_walk : ∀ c, cl.o "House" = some c → Cls K c ∧ Meth K c "walk" i_House_walk := fun c hc => by rw [cf_House] at hc; cases hc; exact ⟨cc_House, ⟨fi_House_walk, ifn_House_walk, ki_House_walk⟩⟩
  have F_House_put := fun_mk (st := st_House_put) li_House_put ci_House_put ki_House_put
  have M_House_put : ∀ c, cl.o "House" = some c → Cls K c ∧ Meth K c "put" i_House_put := fun c hc => by rw [cf_House] at hc; cases hc; exact ⟨cc_House, ⟨fi_House_put, ifn_House_put, ki_House_put⟩⟩
  have F_House_late := fun_mk (st := st_House_late) li_House_late ci_House_late ki_House_late
  have M_House_late : ∀ c, cl.o "House" = some c → Cls K c ∧ Meth K c "late" i_House_late := fun c hc => by rw [cf_House] at hc; cases hc; exact ⟨cc_House, ⟨fi_House_late, ifn_House_late, ki_House_late⟩⟩
  have F_House_strike := fun_mk (st := st_House_strike) li_House_strike ci_House_strike ki_House_strike
  have M_House_strike : ∀ c, cl.o "House" = some c → Cls K c ∧ Meth K c "strike" i_House_strike := fun c hc => by rw [cf_House] at hc; cases hc; exact ⟨cc_House, ⟨fi_House_strike, ifn_House_strike, ki_House_strike⟩⟩
  have F_House_row := fun_mk (st := st_House_row) li_House_row ci_House_row ki_House_row
  have F_House_log := fun_mk (st := st_House_log) li_House_log ci_House_log ki_House_log
  have C_LETTERS := PySem.W.mg_of X G C_LETTERS
  have C_MOST_ROADS := PySem.W.mg_of X G C_MOST_ROADS
  have C_MOST_SIGNS := PySem.W.mg_of X G C_MOST_SIGNS
  have C_MOST_STONES := PySem.W.mg_of X G C_MOST_STONES
  have FI_BadRow := fun_mk (st := in_BadRow) li_BadRow ci_BadRow ki_BadRow
  have X_BadRow : XAt l.prog w K mg base cl "BadRow" 1 := xat_mk (st := in_BadRow) ⟨⟨_, _, _, _, _, _, _, _, _, _, _, _, _, _, _, l_BadRow, r_BadRow⟩, sa_BadRow, s_BadRow, t_BadRow, k_BadRow⟩ rfl (PySem.W.mg_of X G g_BadRow) jn_BadRow ti_BadRow no_BadRow FI_BadRow isc_BadRow (FI_BadRow.binds fun _ _ _ _ _ _ us hl => match us, hl with | [_, _], _ => rfl) rfl (by first | exact Or.inl rfl | exact Or.inr (Or.inl rfl) | exact Or.inr (Or.inr rfl)) (by first | exact Or.inl rfl | exact Or.inr (Or.inl rfl) | exact Or.inr (Or.inr rfl)) (fun _ _ => rfl)
  have X_BadCreel : XPlain K mg cl "BadCreel" := ⟨a_BadCreel, rfl, PySem.W.mg_of X G g_BadCreel, x_BadCreel, k_BadCreel, s_BadCreel, t_BadCreel⟩
  have X_BadName : XPlain K mg cl "BadName" := ⟨a_BadName, rfl, PySem.W.mg_of X G g_BadName, x_BadName, k_BadName, s_BadName, t_BadName⟩
  have X_Bare : XPlain K mg cl "Bare" := ⟨a_Bare, rfl, PySem.W.mg_of X G g_Bare, x_Bare, k_Bare, s_Bare, t_Bare⟩
  have X_Full : XPlain K mg cl "Full" := ⟨a_Full, rfl, PySem.W.mg_of X G g_Full, x_Full, k_Full, s_Full, t_Full⟩
  have X_Laid : XPlain K mg cl "Laid" := ⟨a_Laid, rfl, PySem.W.mg_of X G g_Laid, x_Laid, k_Laid, s_Laid, t_Laid⟩
  have X_NoEntry : XPlain K mg cl "NoEntry" := ⟨a_NoEntry, rfl, PySem.W.mg_of X G g_NoEntry, x_NoEntry, k_NoEntry, s_NoEntry, t_NoEntry⟩
  have X_NoRoad : XPlain K mg cl "NoRoad" := ⟨a_NoRoad, rfl, PySem.W.mg_of X G g_NoRoad, x_NoRoad, k_NoRoad, s_NoRoad, t_NoRoad⟩
  have X_NoStone : XPlain K mg cl "NoStone" := ⟨a_NoStone, rfl, PySem.W.mg_of X G g_NoStone, x_NoStone, k_NoStone, s_NoStone, t_NoStone⟩
  have X_NotWalk : XPlain K mg cl "NotWalk" := ⟨a_NotWalk, rfl, PySem.W.mg_of X G g_NotWalk, x_NotWalk, k_NotWalk, s_NotWalk, t_NotWalk⟩
  have X_Taken : XPlain K mg cl "Taken" := ⟨a_Taken, rfl, PySem.W.mg_of X G g_Taken, x_Taken, k_Taken, s_Taken, t_Taken⟩
  have X_TooMany : XPlain K mg cl "TooMany" := ⟨a_TooMany, rfl, PySem.W.mg_of X G g_TooMany, x_TooMany, k_TooMany, s_TooMany, t_TooMany⟩
  have X_TooNear : XPlain K mg cl "TooNear" := ⟨a_TooNear, rfl, PySem.W.mg_of X G g_TooNear, x_TooNear, k_TooNear, s_TooNear, t_TooNear⟩
  have HS_CreelError : HSub K mg cl "CreelError" := ⟨a_CreelError, PySem.W.mg_of X G g_CreelError, (look_cons (sub_at (C := "BadRow") (exm_mk bb_CreelError ii_CreelError tt_CreelError e_BadRow_CreelError) (by decide)) (look_cons (sub_at (C := "BadCreel") (exm_mk bb_CreelError ii_CreelError tt_CreelError e_BadCreel_CreelError) (by decide)) (look_cons (sub_at (C := "BadName") (exm_mk bb_CreelError ii_CreelError tt_CreelError e_BadName_CreelError) (by decide)) (look_cons (sub_at (C := "Bare") (exm_mk bb_CreelError ii_CreelError tt_CreelError e_Bare_CreelError) (by decide)) (look_cons (sub_at (C := "Full") (exm_mk bb_CreelError ii_CreelError tt_CreelError e_Full_CreelError) (by decide)) (look_cons (sub_at (C := "Laid") (exm_mk bb_CreelError ii_CreelError tt_CreelError e_Laid_CreelError) (by decide)) (look_cons (sub_at (C := "NoEntry") (exm_mk bb_CreelError ii_CreelError tt_CreelError e_NoEntry_CreelError) (by decide)) (look_cons (sub_at (C := "NoRoad") (exm_mk bb_CreelError ii_CreelError tt_CreelError e_NoRoad_CreelError) (by decide)) (look_cons (sub_at (C := "NoStone") (exm_mk bb_CreelError ii_CreelError tt_CreelError e_NoStone_CreelError) (by decide)) (look_cons (sub_at (C := "NotWalk") (exm_mk bb_CreelError ii_CreelError tt_CreelError e_NotWalk_CreelError) (by decide)) (look_cons (sub_at (C := "Taken") (exm_mk bb_CreelError ii_CreelError tt_CreelError e_Taken_CreelError) (by decide)) (look_cons (sub_at (C := "TooMany") (exm_mk bb_CreelError ii_CreelError tt_CreelError e_TooMany_CreelError) (by decide)) (look_cons (sub_at (C := "TooNear") (exm_mk bb_CreelError ii_CreelError tt_CreelError e_TooNear_CreelError) (by decide)) look_nil)))))))))))))⟩
  have P_look_row := ok_look_row (P := l.prog) (w := w) (base := base) (cl := cl) B hK F_look_row g_look_row (bn_look_row F_look_row) C_MOST_STONES X_BadRow X_TooMany
  have P_mirrored := ok_mirrored (P := l.prog) (w := w) (base := base) (cl := cl) B hK F_mirrored g_mirrored (bn_mirrored F_mirrored) P_look_row
  have P_look_creel := ok_look_creel (P := l.prog) (w := w) (base := base) (cl := cl) B hK F_look_creel g_look_creel (bn_look_creel F_look_creel) X_BadCreel
  have P_share := ok_share (P := l.prog) (w := w) (base := base) (cl := cl) B hK F_share g_share (bn_share F_share) 
  have P_mark := ok_mark (P := l.prog) (w := w) (base := base) (cl := cl) B hK F_mark g_mark (bn_mark F_mark) P_share
  have P_longest_ripe := ok_longest_ripe (P := l.prog) (w := w) (base := base) (cl := cl) B hK F_longest_ripe g_longest_ripe (bn_longest_ripe F_longest_ripe) P_mark
  have P_grown := ok_grown (P := l.prog) (w := w) (base := base) (cl := cl) B hK F_grown g_grown (bn_grown F_grown) P_longest_ripe P_mark P_share
  have P_list_of := ok_list_of (P := l.prog) (w := w) (base := base) (cl := cl) B hK F_list_of g_list_of (bn_list_of F_list_of) P_grown
  have P_next_place := ok_next_place (P := l.prog) (w := w) (base := base) (cl := cl) B hK F_next_place g_next_place (bn_next_place F_next_place) P_share
  have P_shortest_ripe := ok_shortest_ripe (P := l.prog) (w := w) (base := base) (cl := cl) B hK F_shortest_ripe g_shortest_ripe (bn_shortest_ripe F_shortest_ripe) P_mark
  have P_shrunk := ok_shrunk (P := l.prog) (w := w) (base := base) (cl := cl) B hK F_shrunk g_shrunk (bn_shrunk F_shrunk) P_shortest_ripe P_mark P_share
  have P_stones_of := ok_stones_of (P := l.prog) (w := w) (base := base) (cl := cl) B hK F_stones_of g_stones_of (bn_stones_of F_stones_of) P_next_place P_shrunk
  have P_look_walks := ok_look_walks (P := l.prog) (w := w) (base := base) (cl := cl) B hK F_look_walks g_look_walks (bn_look_walks F_look_walks) P_look_creel
  have P_by_walks := ok_by_walks (P := l.prog) (w := w) (base := base) (cl := cl) B hK F_by_walks g_by_walks (bn_by_walks F_by_walks) 
  have P_added_to := ok_added_to (P := l.prog) (w := w) (base := base) (cl := cl) B hK F_added_to g_added_to (bn_added_to F_added_to) P_by_walks
  have P_far := ok_far (P := l.prog) (w := w) (base := base) (cl := cl) B hK F_far g_far (bn_far F_far) P_look_row P_look_walks P_list_of P_added_to P_stones_of
  have P_laid_behind := ok_laid_behind (P := l.prog) (w := w) (base := base) (cl := cl) B hK F_laid_behind g_laid_behind (bn_laid_behind F_laid_behind) C_MOST_STONES X_Bare X_TooMany X_TooNear
  have P_put_in := ok_put_in (P := l.prog) (w := w) (base := base) (cl := cl) B hK F_put_in g_put_in (bn_put_in F_put_in) C_MOST_STONES X_Laid X_TooMany
  have P_taken_out := ok_taken_out (P := l.prog) (w := w) (base := base) (cl := cl) B hK F_taken_out g_taken_out (bn_taken_out F_taken_out) X_NoStone
  have P_behind_entry := ok_behind_entry (P := l.prog) (w := w) (base := base) (cl := cl) B hK F_behind_entry g_behind_entry (bn_behind_entry F_behind_entry) P_far P_put_in P_taken_out P_mirrored P_laid_behind
  have P_gone_over := ok_gone_over (P := l.prog) (w := w) (base := base) (cl := cl) B hK F_gone_over g_gone_over (bn_gone_over F_gone_over) HS_CreelError P_behind_entry
  have P_Road___init__ := ok_Road___init__ (P := l.prog) (w := w) (base := base) (cl := cl) B hK F_Road___init__ (F_Road___init__.binds (ps := ["self", "first", "entries", "now"]) fun _ _ _ _ _ _ us hl => match us, hl with | [_, _, _, _], _ => rfl) cf_Road gm_Road ⟨mk_Road, fi_Road___init__, ifn_Road___init__, kc_Road⟩ O_Road_entries O_Road_first O_Road_now
  have P_Road_behind_one := ok_Road_behind_one (P := l.prog) (w := w) (base := base) (cl := cl) B hK F_Road_behind_one (F_Road_behind_one.binds (ps := ["self", "entry"]) fun _ _ _ _ _ _ us hl => match us, hl with | [_, _], _ => rfl) cf_Road cc_Road ⟨fi_Road_behind_one, ifn_Road_behind_one, ki_Road_behind_one⟩ O_Road_entries O_Road_first O_Road_now P_Road___init__ P_behind_entry
  have P_Road_anew := ok_Road_anew (P := l.prog) (w := w) (base := base) (cl := cl) B hK F_Road_anew (F_Road_anew.binds (ps := ["self", "entries"]) fun _ _ _ _ _ _ us hl => match us, hl with | [_, _], _ => rfl) cf_Road cc_Road ⟨fi_Road_anew, ifn_Road_anew, ki_Road_anew⟩ O_Road_first P_Road___init__ P_gone_over
  have P_is_name := ok_is_name (P := l.prog) (w := w) (base := base) (cl := cl) B hK F_is_name g_is_name (bn_is_name F_is_name) C_LETTERS C_MOST_SIGNS
  have P_House___init__ := ok_House___init__ (P := l.prog) (w := w) (base := base) (cl := cl) B hK F_House___init__ (F_House___init__.binds (ps := ["self"]) fun _ _ _ _ _ _ us hl => match us, hl with | [_], _ => rfl) cf_House gm_House ⟨mk_House, fi_House___init__, ifn_House___init__, kc_House⟩ O_House_by_name O_House_done O_House_gone
  have P_House_road := ok_House_road (P := l.prog) (w := w) (base := base) (cl := cl) B hK F_House_road (F_House_road.binds (ps := ["self", "name"]) fun _ _ _ _ _ _ us hl => match us, hl with | [_, _], _ => rfl) cf_House cc_House ⟨fi_House_road, ifn_House_road, ki_House_road⟩ X_NoRoad O_House_by_name
  have P_House_become := ok_House_become (P := l.prog) (w := w) (base := base) (cl := cl) B hK F_House_become (F_House_become.binds (ps := ["self", "deed", "name", "road"]) fun _ _ _ _ _ _ us hl => match us, hl with | [_, _, _, _], _ => rfl) M_House_become O_House_by_name O_House_done O_House_gone
  have P_House_build := ok_House_build (P := l.prog) (w := w) (base := base) (cl := cl) B hK F_House_build (F_House_build.binds (ps := ["self", "name", "row"]) fun _ _ _ _ _ _ us hl => match us, hl with | [_, _, _], _ => rfl) M_House_build C_MOST_ROADS X_BadName X_Full X_Taken O_House_by_name P_is_name P_look_row P_House_become P_Road___init__
  have P_House_walk := ok_House_walk (P := l.prog) (w := w) (base := base) (cl := cl) B hK F_House_walk (F_House_walk.binds (ps := ["self", "name", "creel", "count"]) fun _ _ _ _ _ _ us hl => match us, hl with | [_, _, _, _], _ => rfl) M_House_walk P_House_road P_look_creel P_House_become P_Road_behind_one
  have P_House_put := ok_House_put (P := l.prog) (w := w) (base := base) (cl := cl) B hK F_House_put (F_House_put.binds (ps := ["self", "name", "place"]) fun _ _ _ _ _ _ us hl => match us, hl with | [_, _, _], _ => rfl) M_House_put P_House_road P_House_become P_Road_behind_one
  have P_House_late := ok_House_late (P := l.prog) (w := w) (base := base) (cl := cl) B hK F_House_late (F_House_late.binds (ps := ["self", "name", "at", "creel", "count"]) fun _ _ _ _ _ _ us hl => match us, hl with | [_, _, _, _, _], _ => rfl) M_House_late X_NoEntry O_Road_entries P_House_road P_look_creel P_Road_anew P_House_become
  have P_House_strike := ok_House_strike (P := l.prog) (w := w) (base := base) (cl := cl) B hK F_House_strike (F_House_strike.binds (ps := ["self", "name", "at"]) fun _ _ _ _ _ _ us hl => match us, hl with | [_, _, _], _ => rfl) M_House_strike X_NoEntry X_NotWalk O_Road_entries P_House_road P_Road_anew P_House_become
  have P_House_row := ok_House_row (P := l.prog) (w := w) (base := base) (cl := cl) B hK F_House_row (F_House_row.binds (ps := ["self", "name"]) fun _ _ _ _ _ _ us hl => match us, hl with | [_, _], _ => rfl) cf_House cc_House ⟨fi_House_row, ifn_House_row, ki_House_row⟩ O_Road_now P_House_road
  have P_House_log := ok_House_log (P := l.prog) (w := w) (base := base) (cl := cl) B hK F_House_log (F_House_log.binds (ps := ["self", "name"]) fun _ _ _ _ _ _ us hl => match us, hl with | [_, _], _ => rfl) cf_House cc_House ⟨fi_House_log, ifn_House_log, ki_House_log⟩ O_Road_entries P_House_road
  have P_numbers_L := ok_numbers_L (P := l.prog) (w := w) (base := base) (cl := cl) B hK F_numbers_L g_numbers_L (bn_numbers_L F_numbers_L) 
  have P_row_L := ok_row_L (P := l.prog) (w := w) (base := base) (cl := cl) B hK F_row_L g_row_L (bn_row_L F_row_L) 
  have P_long_row_L := ok_long_row_L (P := l.prog) (w := w) (base := base) (cl := cl) B hK F_long_row_L g_long_row_L (bn_long_row_L F_long_row_L) P_row_L
  have P_walks_L := ok_walks_L (P := l.prog) (w := w) (base := base) (cl := cl) B hK F_walks_L g_walks_L (bn_walks_L F_walks_L) 
  have P_ten_L := ok_ten_L (P := l.prog) (w := w) (base := base) (cl := cl) B hK F_ten_L g_ten_L (bn_ten_L F_ten_L) 
  exact law_end hK (ok_law (P := l.prog) (w := w) (base := base) B hK F P_numbers_L P_long_row_L P_House___init__ P_House_build P_House_put P_walks_L P_ten_L P_House_late P_House_walk P_House_row P_far P_House_log P_House_strike) CW.law_ok (by decide)
end CW
end
open PySem PySem.W PyProof.Rows
set_option maxRecDepth 100000 in
set_option maxHeartbeats 0 in
theorem PySem.Challenge.cw_creelway_k43_whole_late_walks_are_walks_holds : PySem.Challenge.rw_creelway_k43_whole_late_walks_are_walks.Holds := by
  w_on; o_law; k_head; (case hw => w_witness2)
  k_fill
  refine VL.law_walk (l := PySem.Challenge.rw_creelway_k43_whole_late_walks_are_walks) (x := "_law_script") rfl rfl (fun w h Y => PySem.W.kIn_of Y) ?F
  case F =>
    intro w mg fa h KX G hmg
    refine' CW.all_mk KX G hmg ?c_LETTERS ?c_MOST_ROADS ?c_MOST_SIGNS ?c_MOST_STONES ?g_House ?pg_House ?hd_House ?po_House ?sa_House ?mk_House ?kc_House ?g_Road ?pg_Road ?hd_Road ?po_Road ?sa_Road ?mk_Road ?kc_Road ?nf_House_by_name ?nf_House_done ?nf_House_gone ?nf_Road_entries ?nf_Road_first ?nf_Road_now ?fi_Road___init__ ?ifn_Road___init__ ?li_Road___init__ ?ci_Road___init__ ?ki_Road___init__ ?fi_Road_behind_one ?ifn_Road_behind_one ?li_Road_behind_one ?ci_Road_behind_one ?ki_Road_behind_one ?fi_Road_anew ?ifn_Road_anew ?li_Road_anew ?ci_Road_anew ?ki_Road_anew ?fi_House___init__ ?ifn_House___init__ ?li_House___init__ ?ci_House___init__ ?ki_House___init__ ?fi_House_road ?ifn_House_road ?li_House_road ?ci_House_road ?ki_House_road ?fi_House_become ?ifn_House_become ?li_House_become ?ci_House_become ?ki_House_become ?fi_House_build ?ifn_House_build ?li_House_build ?ci_House_build ?ki_House_build ?fi_House_walk ?ifn_House_walk ?li_House_walk ?ci_House_walk ?ki_House_walk ?fi_House_put ?ifn_House_put ?li_House_put ?ci_House_put ?ki_House_put ?fi_House_late ?ifn_House_late ?li_House_late ?ci_House_late ?ki_House_late ?fi_House_strike ?ifn_House_strike ?li_House_strike ?ci_House_strike ?ki_House_strike ?fi_House_row ?ifn_House_row ?li_House_row ?ci_House_row ?ki_House_row ?fi_House_log ?ifn_House_log ?li_House_log ?ci_House_log ?ki_House_log ?g_BadRow ?k_BadRow ?s_BadRow ?t_BadRow ?l_BadRow ?r_BadRow ?sa_BadRow ?no_BadRow ?jn_BadRow ?ti_BadRow ?li_BadRow ?ci_BadRow ?ki_BadRow ?g_BadCreel ?x_BadCreel ?k_BadCreel ?s_BadCreel ?t_BadCreel ?g_BadName ?x_BadName ?k_BadName ?s_BadName ?t_BadName ?g_Bare ?x_Bare ?k_Bare ?s_Bare ?t_Bare ?g_Full ?x_Full ?k_Full ?s_Full ?t_Full ?g_Laid ?x_Laid ?k_Laid ?s_Laid ?t_Laid ?g_NoEntry ?x_NoEntry ?k_NoEntry ?s_NoEntry ?t_NoEntry ?g_NoRoad ?x_NoRoad ?k_NoRoad ?s_NoRoad ?t_NoRoad ?g_NoStone ?x_NoStone ?k_NoStone ?s_NoStone ?t_NoStone ?g_NotWalk ?x_NotWalk ?k_NotWalk ?s_NotWalk ?t_NotWalk ?g_Taken ?x_Taken ?k_Taken ?s_Taken ?t_Taken ?g_TooMany ?x_TooMany ?k_TooMany ?s_TooMany ?t_TooMany ?g_TooNear ?x_TooNear ?k_TooNear ?s_TooNear ?t_TooNear ?g_CreelError ?bb_CreelError ?ii_CreelError ?tt_CreelError ?e_BadRow_CreelError ?e_BadCreel_CreelError ?e_BadName_CreelError ?e_Bare_CreelError ?e_Full_CreelError ?e_Laid_CreelError ?e_NoEntry_CreelError ?e_NoRoad_CreelError ?e_NoStone_CreelError ?e_NotWalk_CreelError ?e_Taken_CreelError ?e_TooMany_CreelError ?e_TooNear_CreelError ?a_look_row ?a_mirrored ?a_look_creel ?a_share ?a_mark ?a_longest_ripe ?a_grown ?a_list_of ?a_next_place ?a_shortest_ripe ?a_shrunk ?a_stones_of ?a_look_walks ?a_by_walks ?a_added_to ?a_far ?a_laid_behind ?a_put_in ?a_taken_out ?a_behind_entry ?a_gone_over ?a_is_name ?a_numbers_L ?a_row_L ?a_long_row_L ?a_walks_L ?a_ten_L ?a_law ?z_len ?z_range ?z_min ?z_max ?z_abs ?z_sum ?z_all ?z_any ?z_sorted ?z_list ?z_tuple ?z_int ?z_bool ?z_str ?z_isinstance ?z_zip ?z_enumerate ?z_reversed ?z_set ?z_dict
    (case c_LETTERS => k_is)
    (case c_MOST_ROADS => k_is)
    (case c_MOST_SIGNS => k_is)
    (case c_MOST_STONES => k_is)
    (case g_House => k_is)
    (case pg_House => k_is)
    (case hd_House => k_is)
    (case po_House => k_is)
    (case sa_House => k_is)
    (case mk_House => k_is)
    (case kc_House => k_is)
    (case g_Road => k_is)
    (case pg_Road => k_is)
    (case hd_Road => k_is)
    (case po_Road => k_is)
    (case sa_Road => k_is)
    (case mk_Road => k_is)
    (case kc_Road => k_is)
    (case nf_House_by_name => k_is)
    (case nf_House_done => k_is)
    (case nf_House_gone => k_is)
    (case nf_Road_entries => k_is)
    (case nf_Road_first => k_is)
    (case nf_Road_now => k_is)
    (case fi_Road___init__ => k_is)
    (case ifn_Road___init__ => k_is)
    (case li_Road___init__ => k_is)
    (case ci_Road___init__ => k_is)
    (case ki_Road___init__ => k_is)
    (case fi_Road_behind_one => k_is)
    (case ifn_Road_behind_one => k_is)
    (case li_Road_behind_one => k_is)
    (case ci_Road_behind_one => k_is)
    (case ki_Road_behind_one => k_is)
    (case fi_Road_anew => k_is)
    (case ifn_Road_anew => k_is)
    (case li_Road_anew => k_is)
    (case ci_Road_anew => k_is)
    (case ki_Road_anew => k_is)
    (case fi_House___init__ => k_is)
    (case ifn_House___init__ => k_is)
    (case li_House___init__ => k_is)
    (case ci_House___init__ => k_is)
    (case ki_House___init__ => k_is)
    (case fi_House_road => k_is)
    (case ifn_House_road => k_is)
    (case li_House_road => k_is)
    (case ci_House_road => k_is)
    (case ki_House_road => k_is)
    (case fi_House_become => k_is)
    (case ifn_House_become => k_is)
    (case li_House_become => k_is)
    (case ci_House_become => k_is)
    (case ki_House_become => k_is)
    (case fi_House_build => k_is)
    (case ifn_House_build => k_is)
    (case li_House_build => k_is)
    (case ci_House_build => k_is)
    (case ki_House_build => k_is)
    (case fi_House_walk => k_is)
    (case ifn_House_walk => k_is)
    (case li_House_walk => k_is)
    (case ci_House_walk => k_is)
    (case ki_House_walk => k_is)
    (case fi_House_put => k_is)
    (case ifn_House_put => k_is)
    (case li_House_put => k_is)
    (case ci_House_put => k_is)
    (case ki_House_put => k_is)
    (case fi_House_late => k_is)
    (case ifn_House_late => k_is)
    (case li_House_late => k_is)
    (case ci_House_late => k_is)
    (case ki_House_late => k_is)
    (case fi_House_strike => k_is)
    (case ifn_House_strike => k_is)
    (case li_House_strike => k_is)
    (case ci_House_strike => k_is)
    (case ki_House_strike => k_is)
    (case fi_House_row => k_is)
    (case ifn_House_row => k_is)
    (case li_House_row => k_is)
    (case ci_House_row => k_is)
    (case ki_House_row => k_is)
    (case fi_House_log => k_is)
    (case ifn_House_log => k_is)
    (case li_House_log => k_is)
    (case ci_House_log => k_is)
    (case ki_House_log => k_is)
    (case g_BadRow => k_is)
    (case k_BadRow => k_is)
    (case s_BadRow => k_is)
    (case t_BadRow => k_is)
    (case l_BadRow => k_is)
    (case r_BadRow => decide +kernel)
    (case sa_BadRow => k_is)
    (case no_BadRow => k_is)
    (case jn_BadRow => k_is)
    (case ti_BadRow => k_is)
    (case li_BadRow => k_is)
    (case ci_BadRow => k_is)
    (case ki_BadRow => k_is)
    (case g_BadCreel => k_is)
    (case x_BadCreel => k_exc)
    (case k_BadCreel => k_is)
    (case s_BadCreel => k_is)
    (case t_BadCreel => k_is)
    (case g_BadName => k_is)
    (case x_BadName => k_exc)
    (case k_BadName => k_is)
    (case s_BadName => k_is)
    (case t_BadName => k_is)
    (case g_Bare => k_is)
    (case x_Bare => k_exc)
    (case k_Bare => k_is)
    (case s_Bare => k_is)
    (case t_Bare => k_is)
    (case g_Full => k_is)
    (case x_Full => k_exc)
    (case k_Full => k_is)
    (case s_Full => k_is)
    (case t_Full => k_is)
    (case g_Laid => k_is)
    (case x_Laid => k_exc)
    (case k_Laid => k_is)
    (case s_Laid => k_is)
    (case t_Laid => k_is)
    (case g_NoEntry => k_is)
    (case x_NoEntry => k_exc)
    (case k_NoEntry => k_is)
    (case s_NoEntry => k_is)
    (case t_NoEntry => k_is)
    (case g_NoRoad => k_is)
    (case x_NoRoad => k_exc)
    (case k_NoRoad => k_is)
    (case s_NoRoad => k_is)
    (case t_NoRoad => k_is)
    (case g_NoStone => k_is)
    (case x_NoStone => k_exc)
    (case k_NoStone => k_is)
    (case s_NoStone => k_is)
    (case t_NoStone => k_is)
    (case g_NotWalk => k_is)
    (case x_NotWalk => k_exc)
    (case k_NotWalk => k_is)
    (case s_NotWalk => k_is)
    (case t_NotWalk => k_is)
    (case g_Taken => k_is)
    (case x_Taken => k_exc)
    (case k_Taken => k_is)
    (case s_Taken => k_is)
    (case t_Taken => k_is)
    (case g_TooMany => k_is)
    (case x_TooMany => k_exc)
    (case k_TooMany => k_is)
    (case s_TooMany => k_is)
    (case t_TooMany => k_is)
    (case g_TooNear => k_is)
    (case x_TooNear => k_exc)
    (case k_TooNear => k_is)
    (case s_TooNear => k_is)
    (case t_TooNear => k_is)
    (case g_CreelError => k_is)
    (case bb_CreelError => k_is)
    (case ii_CreelError => k_is)
    (case tt_CreelError => k_is)
    (case e_BadRow_CreelError => k_is)
    (case e_BadCreel_CreelError => k_is)
    (case e_BadName_CreelError => k_is)
    (case e_Bare_CreelError => k_is)
    (case e_Full_CreelError => k_is)
    (case e_Laid_CreelError => k_is)
    (case e_NoEntry_CreelError => k_is)
    (case e_NoRoad_CreelError => k_is)
    (case e_NoStone_CreelError => k_is)
    (case e_NotWalk_CreelError => k_is)
    (case e_Taken_CreelError => k_is)
    (case e_TooMany_CreelError => k_is)
    (case e_TooNear_CreelError => k_is)
    (case a_look_row => refine' VL.at_mk KX G ?b1 ?b2 ?b3 ?b4; (case b1 => k_is); (case b2 => k_is); (case b3 => k_is); (case b4 => k_is))
    (case a_mirrored => refine' VL.at_mk KX G ?b1 ?b2 ?b3 ?b4; (case b1 => k_is); (case b2 => k_is); (case b3 => k_is); (case b4 => k_is))
    (case a_look_creel => refine' VL.at_mk KX G ?b1 ?b2 ?b3 ?b4; (case b1 => k_is); (case b2 => k_is); (case b3 => k_is); (case b4 => k_is))
    (case a_share => refine' VL.at_mk KX G ?b1 ?b2 ?b3 ?b4; (case b1 => k_is); (case b2 => k_is); (case b3 => k_is); (case b4 => k_is))
    (case a_mark => refine' VL.at_mk KX G ?b1 ?b2 ?b3 ?b4; (case b1 => k_is); (case b2 => k_is); (case b3 => k_is); (case b4 => k_is))
    (case a_longest_ripe => refine' VL.at_mk KX G ?b1 ?b2 ?b3 ?b4; (case b1 => k_is); (case b2 => k_is); (case b3 => k_is); (case b4 => k_is))
    (case a_grown => refine' VL.at_mk KX G ?b1 ?b2 ?b3 ?b4; (case b1 => k_is); (case b2 => k_is); (case b3 => k_is); (case b4 => k_is))
    (case a_list_of => refine' VL.at_mk KX G ?b1 ?b2 ?b3 ?b4; (case b1 => k_is); (case b2 => k_is); (case b3 => k_is); (case b4 => k_is))
    (case a_next_place => refine' VL.at_mk KX G ?b1 ?b2 ?b3 ?b4; (case b1 => k_is); (case b2 => k_is); (case b3 => k_is); (case b4 => k_is))
    (case a_shortest_ripe => refine' VL.at_mk KX G ?b1 ?b2 ?b3 ?b4; (case b1 => k_is); (case b2 => k_is); (case b3 => k_is); (case b4 => k_is))
    (case a_shrunk => refine' VL.at_mk KX G ?b1 ?b2 ?b3 ?b4; (case b1 => k_is); (case b2 => k_is); (case b3 => k_is); (case b4 => k_is))
    (case a_stones_of => refine' VL.at_mk KX G ?b1 ?b2 ?b3 ?b4; (case b1 => k_is); (case b2 => k_is); (case b3 => k_is); (case b4 => k_is))
    (case a_look_walks => refine' VL.at_mk KX G ?b1 ?b2 ?b3 ?b4; (case b1 => k_is); (case b2 => k_is); (case b3 => k_is); (case b4 => k_is))
    (case a_by_walks => refine' VL.at_mk KX G ?b1 ?b2 ?b3 ?b4; (case b1 => k_is); (case b2 => k_is); (case b3 => k_is); (case b4 => k_is))
    (case a_added_to => refine' VL.at_mk KX G ?b1 ?b2 ?b3 ?b4; (case b1 => k_is); (case b2 => k_is); (case b3 => k_is); (case b4 => k_is))
    (case a_far => refine' VL.at_mk KX G ?b1 ?b2 ?b3 ?b4; (case b1 => k_is); (case b2 => k_is); (case b3 => k_is); (case b4 => k_is))
    (case a_laid_behind => refine' VL.at_mk KX G ?b1 ?b2 ?b3 ?b4; (case b1 => k_is); (case b2 => k_is); (case b3 => k_is); (case b4 => k_is))
    (case a_put_in => refine' VL.at_mk KX G ?b1 ?b2 ?b3 ?b4; (case b1 => k_is); (case b2 => k_is); (case b3 => k_is); (case b4 => k_is))
    (case a_taken_out => refine' VL.at_mk KX G ?b1 ?b2 ?b3 ?b4; (case b1 => k_is); (case b2 => k_is); (case b3 => k_is); (case b4 => k_is))
    (case a_behind_entry => refine' VL.at_mk KX G ?b1 ?b2 ?b3 ?b4; (case b1 => k_is); (case b2 => k_is); (case b3 => k_is); (case b4 => k_is))
    (case a_gone_over => refine' VL.at_mk KX G ?b1 ?b2 ?b3 ?b4; (case b1 => k_is); (case b2 => k_is); (case b3 => k_is); (case b4 => k_is))
    (case a_is_name => refine' VL.at_mk KX G ?b1 ?b2 ?b3 ?b4; (case b1 => k_is); (case b2 => k_is); (case b3 => k_is); (case b4 => k_is))
    (case a_numbers_L => refine' VL.at_mk KX G ?b1 ?b2 ?b3 ?b4; (case b1 => k_is); (case b2 => k_is); (case b3 => k_is); (case b4 => k_is))
    (case a_row_L => refine' VL.at_mk KX G ?b1 ?b2 ?b3 ?b4; (case b1 => k_is); (case b2 => k_is); (case b3 => k_is); (case b4 => k_is))
    (case a_long_row_L => refine' VL.at_mk KX G ?b1 ?b2 ?b3 ?b4; (case b1 => k_is); (case b2 => k_is); (case b3 => k_is); (case b4 => k_is))
    (case a_walks_L => refine' VL.at_mk KX G ?b1 ?b2 ?b3 ?b4; (case b1 => k_is); (case b2 => k_is); (case b3 => k_is); (case b4 => k_is))
    (case a_ten_L => refine' VL.at_mk KX G ?b1 ?b2 ?b3 ?b4; (case b1 => k_is); (case b2 => k_is); (case b3 => k_is); (case b4 => k_is))
    (case a_law => refine' VL.at_mk KX G ?b1 ?b2 ?b3 ?b4; (case b1 => k_is); (case b2 => k_is); (case b3 => k_is); (case b4 => k_is))
    (case z_len => k_is)
    (case z_range => k_is)
    (case z_min => k_is)
    (case z_max => k_is)
    (case z_abs => k_is)
    (case z_sum => k_is)
    (case z_all => k_is)
    (case z_any => k_is)
    (case z_sorted => k_is)
    (case z_list => k_is)
    (case z_tuple => k_is)
    (case z_int => k_is)
    (case z_bool => k_is)
    (case z_str => k_is)
    (case z_isinstance => k_is)
    (case z_zip => k_is)
    (case z_enumerate => k_is)
    (case z_reversed => k_is)
    (case z_set => k_is)
    (case z_dict => k_is)
