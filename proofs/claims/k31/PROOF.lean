import PyProof.Rows.All
import Wide.All
import OpenK.AllK
import Wide.FinOn
import HandS.Comp
import HandS.Exc
import HandS.WordsList
import HandS.Dict
import HandS.TryMany
import HandS.Lambda
import HandS.ExcField
import HandS.ExcCtx
import HandS.SuiteRaise
import HandS.RaiseFrom
import HandS.ExcInitHot
import HandS.Wide
import HandS.TupAny
import HandS.Text
import HandS.WordsDict
import HandS.Iter
import PyProof.LongRange
import HandS.Style
import HandS.ExcInit
import HandS.WordsExc
import HandS.IsInst
import HandS.SortInts
import HandS.SortRule
import HandS.Deep
import HandS.SortKw
import KE.KMinBuiltin
import KE.DataFind
import HandS.EndTab
import KE.KExcIs
import HandS.SetFor
import HandS.Strs
import HandS.Conv
import HandS.More
import HandS.Zip
import KE.SortData
import KE.DataCmp
import HandS.RaiseMore
import HandS.FStr
import PyProof.ListRange
import HandS.HeadHook3
import KE.GoesNew
import HandS.ListItems
import PyProof.StrBlock2
import KE.KDictZip
import PySem.Challenge.RW_creelway_k31_whole_kin_or_what_bars
set_option Elab.async false
set_option linter.all false
set_option maxRecDepth 100000
set_option maxHeartbeats 4000000

namespace VL
open PySem PySem.Spec PyProof.Rows L2

def NT (o : HO) : Prop := ∀ ps, o ≠ .tbl ps
structure Same (H H' : Hp) : Prop where
  k : ∀ b o, H b = some o → NT o ∨ H' b = none → H' b = some o
theorem Same.at {H H' : Hp} (e : Same H H') (b : Addr) (o : HO) (h : H b = some o) (nt : NT o := by intro _ z; cases z) : H' b = some o := e.k b o h (.inl nt)
theorem Same.refl (H : Hp) : Same H H := ⟨fun _ _ h _ => h⟩
theorem Same.free {H H' : Hp} (e : Same H H') {l : Addr} (h : H' l = none) : H l = none := by
  cases q : H l with
  | none => rfl
  | some o =>
    have z := e.k l o q (.inr h)
    rw [h] at z
    cases z
/-- a dict that lies open, or locked -/
theorem Same.rd {H H' : Hp} (e : Same H H') {a : Addr} {xs : List (Key × V)} (h : Rd H a (.dK xs)) : Rd H' a (.dK xs) := by
  rcases h with h | ⟨o, h⟩
  · exact .inl (e.at _ _ h)
  · exact .inr ⟨o, e.at _ _ h⟩
theorem Same.trans {H H1 H2 : Hp} (a : Same H H1) (b : Same H1 H2) : Same H H2 := ⟨fun c o h nt => by
  rcases nt with nt | nt
  · exact b.k c o (a.k c o h (.inl nt)) (.inl nt)
  · have z := a.k c o h (.inr (b.free nt))
    rw [b.free nt] at z
    cases z⟩
theorem Same.of {H H' : Hp} (e : L2.Same H H') : Same H H' := ⟨fun b o h _ => e b o h⟩
theorem Same.seq {K : PySem.W.Frag} {H H' : Hp} {a : Addr} {xs : List V} (e : Same H H') (h : SqL K H a xs) : SqL K H' a xs := by
  rcases h with (h | ⟨o, h⟩) | h
  · exact .inl (.inl (e.at _ _ h))
  · exact .inl (.inr ⟨o, e.at _ _ h⟩)
  · exact .inr h
/-- the name of a law's lambda -/
def lamQ : Str := "law.<locals>.<lambda>"

inductive D where
  | non
  | bl (b : Bool)
  | int (i : Int)
  | str (x : Str)
  | lst (xs : List D)
  | tup (xs : List D)
  | dct (kvs : List (Key × D))
  | obj (C : Str) (fs : List (Str × D))
  | scr (ns : List Int)
/-- the own classes by name; the written part -/
structure Cl where
  f : Str → Option Addr
  K : PySem.W.Frag
  o : Str → Option Addr

mutual
inductive Rep (cl : Cl) (H : Hp) : D → V → Prop
  | non : Rep cl H .non .non
  | bl (b : Bool) : Rep cl H (.bl b) (.bl b)
  | int (i : Int) : Rep cl H (.int i) (.int i)
  | str (x : Str) : Rep cl H (.str x) (.str x)
  | lst {a : Addr} {ds : List D} {xs : List V} : H a = some (.lst xs) → RepL cl H ds xs → Rep cl H (.lst ds) (.ref a)
  | tup {a : Addr} {ds : List D} {xs : List V} : H a = some (.tup xs) → RepL cl H ds xs → Rep cl H (.tup ds) (.ref a)
  | dct {a : Addr} {ds : List (Key × D)} {xs : List (Key × V)} : Rd H a (.dK xs) → RepK cl H ds xs → Rep cl H (.dct ds) (.ref a)
  | obj {a c dx : Addr} {C : Str} {ds : List (Str × D)} {xs : List (Str × V)} : cl.o C = some c → H a = some (.ins c dx xs) → RepF cl H ds xs → Rep cl H (.obj C ds) (.ref a)
  | scr {a : Addr} {ns : List Int} : SqL cl.K H a (ns.map V.int) → Rep cl H (.scr ns) (.ref a)
inductive RepL (cl : Cl) (H : Hp) : List D → List V → Prop
  | nil : RepL cl H [] []
  | cons {d : D} {ds : List D} {v : V} {vs : List V} : Rep cl H d v → RepL cl H ds vs → RepL cl H (d :: ds) (v :: vs)
inductive RepK (cl : Cl) (H : Hp) : List (Key × D) → List (Key × V) → Prop
  | nil : RepK cl H [] []
  | cons {k : Key} {d : D} {ds : List (Key × D)} {v : V} {vs : List (Key × V)} : Rep cl H d v → RepK cl H ds vs → RepK cl H ((k, d) :: ds) ((k, v) :: vs)
inductive RepF (cl : Cl) (H : Hp) : List (Str × D) → List (Str × V) → Prop
  | nil : RepF cl H [] []
  | cons {k : Str} {d : D} {ds : List (Str × D)} {v : V} {vs : List (Str × V)} : Rep cl H d v → RepF cl H ds vs → RepF cl H ((k, d) :: ds) ((k, v) :: vs)
end

section
variable {cl : Cl} {H H' : Hp}
mutual
theorem Rep.same (e : Same H H') : ∀ (d : D) (v : V), Rep cl H d v → Rep cl H' d v
  | .non, _, h => by cases h; exact .non
  | .bl b, _, h => by cases h; exact .bl b
  | .int i, _, h => by cases h; exact .int i
  | .str x, _, h => by cases h; exact .str x
  | .lst ds, _, h => by
    cases h with
    | lst h1 h2 => exact .lst (e.at _ _ h1) (RepL.same e ds _ h2)
  | .tup ds, _, h => by
    cases h with
    | tup h1 h2 => exact .tup (e.at _ _ h1) (RepL.same e ds _ h2)
  | .dct ds, _, h => by
    cases h with
    | dct h1 h2 => exact .dct (e.rd h1) (RepK.same e ds _ h2)
  | .obj C ds, _, h => by
    cases h with
    | obj h0 h1 h2 => exact .obj h0 (e.at _ _ h1) (RepF.same e ds _ h2)
  | .scr ns, _, h => by
    cases h with
    | scr h1 => exact .scr (e.seq h1)
theorem RepL.same (e : Same H H') : ∀ (ds : List D) (vs : List V), RepL cl H ds vs → RepL cl H' ds vs
  | [], _, h => by cases h; exact .nil
  | d :: ds, _, h => by
    cases h with
    | cons h1 h2 => exact .cons (Rep.same e d _ h1) (RepL.same e ds _ h2)
theorem RepK.same (e : Same H H') : ∀ (ds : List (Key × D)) (vs : List (Key × V)), RepK cl H ds vs → RepK cl H' ds vs
  | [], _, h => by cases h; exact .nil
  | (k, d) :: ds, _, h => by
    cases h with
    | cons h1 h2 => exact .cons (Rep.same e d _ h1) (RepK.same e ds _ h2)
theorem RepF.same (e : Same H H') : ∀ (ds : List (Str × D)) (vs : List (Str × V)), RepF cl H ds vs → RepF cl H' ds vs
  | [], _, h => by cases h; exact .nil
  | (k, d) :: ds, _, h => by
    cases h with
    | cons h1 h2 => exact .cons (Rep.same e d _ h1) (RepF.same e ds _ h2)
end
theorem RepL.length : ∀ {ds : List D} {vs : List V}, RepL cl H ds vs → vs.length = ds.length
  | [], _, h => by cases h; rfl
  | d :: ds, _, h => by
    cases h with
    | cons h1 h2 => rw [List.length_cons, List.length_cons, RepL.length h2]
theorem RepL.get : ∀ {ds : List D} {vs : List V} {i : Nat} {d : D}, RepL cl H ds vs → ds[i]? = some d → ∃ v, vs[i]? = some v ∧ Rep cl H d v
  | [], _, _, _, _, e => by simp at e
  | d :: ds, _, 0, _, h, e => by
    cases h with
    | cons h1 h2 =>
      simp at e
      subst e
      exact ⟨_, rfl, h1⟩
  | d :: ds, _, i + 1, _, h, e => by
    cases h with
    | cons h1 h2 =>
      obtain ⟨v, q, r⟩ := RepL.get (i := i) h2 (by simpa using e)
      exact ⟨v, by simpa using q, r⟩
theorem RepL.app : ∀ {ds ds' : List D} {vs vs' : List V}, RepL cl H ds vs → RepL cl H ds' vs' → RepL cl H (ds ++ ds') (vs ++ vs')
  | [], _, _, _, h, h' => by cases h; exact h'
  | d :: ds, _, _, _, h, h' => by
    cases h with
    | cons h1 h2 => exact .cons h1 (RepL.app h2 h')
theorem RepL.take : ∀ {ds : List D} {vs : List V} (n : Nat), RepL cl H ds vs → RepL cl H (ds.take n) (vs.take n)
  | _, _, 0, _ => .nil
  | [], _, _ + 1, h => by cases h; exact .nil
  | d :: ds, _, n + 1, h => by
    cases h with
    | cons h1 h2 => exact .cons h1 (RepL.take n h2)
theorem RepL.drop : ∀ {ds : List D} {vs : List V} (n : Nat), RepL cl H ds vs → RepL cl H (ds.drop n) (vs.drop n)
  | _, _, 0, h => h
  | [], _, _ + 1, h => by cases h; exact .nil
  | d :: ds, _, n + 1, h => by
    cases h with
    | cons h1 h2 => exact RepL.drop n h2
theorem RepL.rev {ds : List D} {vs : List V} (h : RepL cl H ds vs) : RepL cl H ds.reverse vs.reverse := by
  have key : ∀ (ds : List D) (vs : List V) (es : List D) (us : List V), RepL cl H ds vs → RepL cl H es us → RepL cl H (ds.reverseAux es) (vs.reverseAux us) := by
    intro ds
    induction ds with
    | nil =>
      intro vs es us h1 h2
      cases h1
      exact h2
    | cons d ds ih =>
      intro vs es us h1 h2
      cases h1 with
      | cons a b =>
        have q := ih _ _ _ b (.cons a h2)
        exact q
  exact key ds vs [] [] h .nil
theorem RepL.set : ∀ {ds : List D} {vs : List V} {d : D} {v : V} (i : Nat), RepL cl H ds vs → Rep cl H d v → RepL cl H (ds.set i d) (vs.set i v)
  | [], _, _, _, _, h, _ => by cases h; exact .nil
  | d :: ds, _, _, _, 0, h, r => by
    cases h with
    | cons h1 h2 => exact .cons r h2
  | d :: ds, _, _, _, i + 1, h, r => by
    cases h with
    | cons h1 h2 => exact .cons h1 (RepL.set i h2 r)
theorem RepL.ints {ns : List Int} : ∀ {vs : List V}, RepL cl H (ns.map D.int) vs → vs = ns.map V.int := by
  induction ns with
  | nil =>
    intro vs h
    cases h
    rfl
  | cons n ns ih =>
    intro vs h
    cases h with
    | cons h1 h2 =>
      cases h1
      rw [ih h2]
      rfl
theorem RepL.ofInts (ns : List Int) : RepL cl H (ns.map D.int) (ns.map V.int) := by
  induction ns with
  | nil => exact .nil
  | cons n ns ih => exact .cons (.int n) ih
end

/-- numbers, texts, truths, None -/
def D.bare : D → Bool
  | .non => true
  | .bl _ => true
  | .int _ => true
  | .str _ => true
  | _ => false
/-- no list, dict, object: what never changes -/
def D.plain : D → Bool
  | .lst _ => false
  | .dct _ => false
  | .obj _ _ => false
  | _ => true
mutual
inductive RB (cl : Cl) (Hs H : Hp) : D → V → Prop
  | val {d : D} {v : V} : Rep cl Hs d v → RB cl Hs H d v
  | lst {a : Addr} {ds : List D} {xs : List V} : H a = some (.lst xs) → RepL cl Hs ds xs → RB cl Hs H (.lst ds) (.ref a)
  | dct {a : Addr} {ds : List (Key × D)} {xs : List (Key × V)} : Rd H a (.dK xs) → RepK cl Hs ds xs → RB cl Hs H (.dct ds) (.ref a)
  | obj {a c dx : Addr} {C : Str} {ds : List (Str × D)} {xs : List (Str × V)} : cl.o C = some c → H a = some (.ins c dx xs) → RBF cl Hs H ds xs → RB cl Hs H (.obj C ds) (.ref a)
inductive RBF (cl : Cl) (Hs H : Hp) : List (Str × D) → List (Str × V) → Prop
  | nil : RBF cl Hs H [] []
  | cons {k : Str} {d : D} {ds : List (Str × D)} {v : V} {vs : List (Str × V)} : RB cl Hs H d v → RBF cl Hs H ds vs → RBF cl Hs H ((k, d) :: ds) ((k, v) :: vs)
end
section
variable {cl : Cl} {Hs Hs' H H' : Hp}
mutual
theorem RB.same (e : Same Hs Hs') (h : Same H H') : ∀ {d : D} {v : V}, RB cl Hs H d v → RB cl Hs' H' d v
  | _, _, .val r => .val (Rep.same e _ _ r)
  | _, _, .lst h1 h2 => .lst (h.at _ _ h1) (RepL.same e _ _ h2)
  | _, _, .dct h1 h2 => .dct (h.rd h1) (RepK.same e _ _ h2)
  | _, _, .obj h0 h1 h2 => .obj h0 (h.at _ _ h1) (RBF.same e h h2)
theorem RBF.same (e : Same Hs Hs') (h : Same H H') : ∀ {ds : List (Str × D)} {vs : List (Str × V)}, RBF cl Hs H ds vs → RBF cl Hs' H' ds vs
  | _, _, .nil => .nil
  | _, _, .cons a b => .cons (RB.same e h a) (RBF.same e h b)
end
end
inductive Kd where
  | val
  | bor
  | own (n : Option Addr)
  | obj (n : Option Addr) (ks : List (Str × Kd))
  | adr (a : Addr)
  | lls (n : Option Addr) (k : Kd)

mutual
/-- d lies at v: cl the classes, N what is new, B what was borrowed at the entry, Hs what stays as it is, H all; As: what may be changed -/
inductive ORep (cl : Cl) (N : Addr → Prop) (B Hs H : Hp) : Kd → D → V → List Addr → Prop
  | val {d : D} {v : V} : Rep cl Hs d v → ORep cl N B Hs H .val d v []
  | borV {d : D} {v : V} : Rep cl Hs d v → ORep cl N B Hs H .bor d v []
  | borL {a : Addr} {ds : List D} {xs : List V} : B a = some (.lst xs) → RepL cl Hs ds xs → ORep cl N B Hs H .bor (.lst ds) (.ref a) []
  | borK {a : Addr} {ds : List (Key × D)} {xs : List (Key × V)} : Rd B a (.dK xs) → RepK cl Hs ds xs → ORep cl N B Hs H .bor (.dct ds) (.ref a) []
  | borO {a c dx : Addr} {C : Str} {ds : List (Str × D)} {xs : List (Str × V)} : cl.o C = some c → B a = some (.ins c dx xs) → RBF cl Hs B ds xs → ORep cl N B Hs H .bor (.obj C ds) (.ref a) []
  | ownL {n : Option Addr} {a : Addr} {ds : List D} {xs : List V} : (N a ∧ ∀ b, n = some b → b = a) → H a = some (.lst xs) → RepL cl Hs ds xs → ORep cl N B Hs H (.own n) (.lst ds) (.ref a) [a]
  | ownK {n : Option Addr} {a : Addr} {ds : List (Key × D)} {xs : List (Key × V)} : (N a ∧ ∀ b, n = some b → b = a) → H a = some (.dK xs) → RepK cl Hs ds xs → ORep cl N B Hs H (.own n) (.dct ds) (.ref a) [a]
  | ownV {d : D} {v : V} : d.plain = true → Rep cl Hs d v → ORep cl N B Hs H (.own none) d v []
  | obj {n : Option Addr} {ks : List (Str × Kd)} {a c dx : Addr} {C : Str} {ds : List (Str × D)} {xs : List (Str × V)} {As : List Addr} :
      (N a ∧ ∀ b, n = some b → b = a) → cl.o C = some c → H a = some (.ins c dx xs) → OFs cl N B Hs H ks ds xs As → ORep cl N B Hs H (.obj n ks) (.obj C ds) (.ref a) (a :: As)
  | adr {a : Addr} : ORep cl N B Hs H (.adr a) .non (.ref a) []
  | lls {n : Option Addr} {k : Kd} {a : Addr} {ds : List D} {xs : List V} {As : List Addr} : (N a ∧ ∀ b, n = some b → b = a) → H a = some (.lst xs) → OLs cl N B Hs H k ds xs As → ORep cl N B Hs H (.lls n k) (.lst ds) (.ref a) (a :: As)
  | llT {n : Option Addr} {k : Kd} {a : Addr} {ds : List D} {xs : List V} {As : List Addr} : (N a ∧ ∀ b, n = some b → b = a) → H a = some (.tup xs) → OLs cl N B Hs H k ds xs As → ORep cl N B Hs H (.lls n k) (.tup ds) (.ref a) (a :: As)
  | llV {k : Kd} {d : D} {v : V} : d.bare = true → Rep cl Hs d v → ORep cl N B Hs H (.lls none k) d v []
inductive OFs (cl : Cl) (N : Addr → Prop) (B Hs H : Hp) : List (Str × Kd) → List (Str × D) → List (Str × V) → List Addr → Prop
  | nil : OFs cl N B Hs H [] [] [] []
  | cons {f : Str} {k : Kd} {d : D} {v : V} {A As : List Addr} {ks : List (Str × Kd)} {ds : List (Str × D)} {xs : List (Str × V)} :
      ORep cl N B Hs H k d v A → OFs cl N B Hs H ks ds xs As → OFs cl N B Hs H ((f, k) :: ks) ((f, d) :: ds) ((f, v) :: xs) (A ++ As)
/-- a list's items, each of kind k -/
inductive OLs (cl : Cl) (N : Addr → Prop) (B Hs H : Hp) : Kd → List D → List V → List Addr → Prop
  | nil {k : Kd} : OLs cl N B Hs H k [] [] []
  | cons {k : Kd} {d : D} {v : V} {A As : List Addr} {ds : List D} {xs : List V} : ORep cl N B Hs H k d v A → OLs cl N B Hs H k ds xs As → OLs cl N B Hs H k (d :: ds) (v :: xs) (A ++ As)
end

section
variable {cl : Cl} {N N' : Addr → Prop} {B B' Hs Hs' H H' : Hp}
theorem OLs.imp {k : Kd} (T : List Addr → Prop) (t1 : ∀ A As, T (A ++ As) → T A) (t2 : ∀ A As, T (A ++ As) → T As) (f : ∀ d v A, T A → ORep cl N B Hs H k d v A → ORep cl N' B' Hs' H' k d v A) : ∀ {ds : List D} {xs : List V} {As : List Addr}, T As → OLs cl N B Hs H k ds xs As → OLs cl N' B' Hs' H' k ds xs As
  | [], _, _, _, h => by cases h; exact .nil
  | d :: ds, _, _, t, h => by
    cases h with
    | cons h1 h2 => exact .cons (f _ _ _ (t1 _ _ t) h1) (OLs.imp T t1 t2 f (t2 _ _ t) h2)
theorem OLs.all {k : Kd} {P : Addr → Prop} (f : ∀ d v A, ORep cl N B Hs H k d v A → ∀ a ∈ A, P a) : ∀ {ds : List D} {xs : List V} {As : List Addr}, OLs cl N B Hs H k ds xs As → ∀ a ∈ As, P a
  | [], _, _, h => by cases h; intro a z; cases z
  | d :: ds, _, _, h => by
    cases h with
    | cons h1 h2 =>
      intro a z
      rcases List.mem_append.mp z with z | z
      · exact f _ _ _ h1 a z
      · exact OLs.all f h2 a z
theorem OLs.length {k : Kd} : ∀ {ds : List D} {xs : List V} {As : List Addr}, OLs cl N B Hs H k ds xs As → xs.length = ds.length
  | [], _, _, h => by cases h; rfl
  | d :: ds, _, _, h => by
    cases h with
    | cons h1 h2 => rw [List.length_cons, List.length_cons, OLs.length h2]
mutual
theorem ORep.mono (e : Same Hs Hs') (b : Same B B') (nn : ∀ a, N a → N' a) : ∀ (k : Kd) (d : D) (v : V) (A : List Addr), (∀ a ∈ A, H' a = H a) → ORep cl N B Hs H k d v A → ORep cl N' B' Hs' H' k d v A
  | .val, d, v, _, _, h => by
    cases h with
    | val h1 => exact .val (Rep.same e _ _ h1)
  | .bor, d, v, _, _, h => by
    cases h with
    | borV h1 => exact .borV (Rep.same e _ _ h1)
    | borL h1 h2 => exact .borL (b.at _ _ h1) (RepL.same e _ _ h2)
    | borK h1 h2 => exact .borK (b.rd h1) (RepK.same e _ _ h2)
    | borO h0 h1 h2 => exact .borO h0 (b.at _ _ h1) (RBF.same e b h2)
  | .own n, d, v, _, k, h => by
    cases h with
    | ownL h0 h1 h2 => exact .ownL ⟨nn _ h0.1, h0.2⟩ ((k _ List.mem_cons_self).trans h1) (RepL.same e _ _ h2)
    | ownK h0 h1 h2 => exact .ownK ⟨nn _ h0.1, h0.2⟩ ((k _ List.mem_cons_self).trans h1) (RepK.same e _ _ h2)
    | ownV h0 h1 => exact .ownV h0 (Rep.same e _ _ h1)
  | .obj n ks, d, v, _, k, h => by
    cases h with
    | obj h0 h1 h2 h3 => exact .obj ⟨nn _ h0.1, h0.2⟩ h1 ((k _ List.mem_cons_self).trans h2) (OFs.mono e b nn ks _ _ _ (fun a ha => k a (List.mem_cons_of_mem _ ha)) h3)
  | .adr a, d, v, _, _, h => by
    cases h with
    | adr => exact .adr
  | .lls n kd, d, v, _, k, h => by
    cases h with
    | lls h0 h1 h2 => exact .lls ⟨nn _ h0.1, h0.2⟩ ((k _ List.mem_cons_self).trans h1) (OLs.imp (fun A => ∀ a ∈ A, H' a = H a) (fun _ _ t a ha => t a (List.mem_append_left _ ha)) (fun _ _ t a ha => t a (List.mem_append_right _ ha)) (fun d v A t o => ORep.mono e b nn kd d v A t o) (fun a ha => k a (List.mem_cons_of_mem _ ha)) h2)
    | llT h0 h1 h2 => exact .llT ⟨nn _ h0.1, h0.2⟩ ((k _ List.mem_cons_self).trans h1) (OLs.imp (fun A => ∀ a ∈ A, H' a = H a) (fun _ _ t a ha => t a (List.mem_append_left _ ha)) (fun _ _ t a ha => t a (List.mem_append_right _ ha)) (fun d v A t o => ORep.mono e b nn kd d v A t o) (fun a ha => k a (List.mem_cons_of_mem _ ha)) h2)
    | llV h0 h1 => exact .llV h0 (Rep.same e _ _ h1)
theorem OFs.mono (e : Same Hs Hs') (b : Same B B') (nn : ∀ a, N a → N' a) : ∀ (ks : List (Str × Kd)) (ds : List (Str × D)) (xs : List (Str × V)) (A : List Addr), (∀ a ∈ A, H' a = H a) → OFs cl N B Hs H ks ds xs A → OFs cl N' B' Hs' H' ks ds xs A
  | [], _, _, _, _, h => by cases h; exact .nil
  | (f, kd) :: ks, _, _, _, k, h => by
    cases h with
    | cons h1 h2 => exact .cons (ORep.mono e b nn kd _ _ _ (fun a ha => k a (List.mem_append_left _ ha)) h1) (OFs.mono e b nn ks _ _ _ (fun a ha => k a (List.mem_append_right _ ha)) h2)
end
end
end VL

namespace VL
open PySem PySem.Spec PyProof.Rows L2

/-- an exception: its class's name, its field -/
structure Exc where
  cls : Str
  at_ : Option D
inductive R (α : Type) where
  | stuck
  | exc (x : Exc)
  | ok (a : α)
@[reducible] def R.bind {α β : Type} (r : R α) (k : α → R β) : R β := match r with
  | .stuck => .stuck
  | .exc x => .exc x
  | .ok a => k a
instance : Monad R where
  pure := R.ok
  bind := R.bind
@[simp] theorem R.ok_bind {α β : Type} (a : α) (k : α → R β) : (R.ok a >>= k) = k a := rfl
@[simp] theorem R.stuck_bind {α β : Type} (k : α → R β) : ((R.stuck : R α) >>= k) = .stuck := rfl
@[simp] theorem R.exc_bind {α β : Type} (x : Exc) (k : α → R β) : ((R.exc x : R α) >>= k) = .exc x := rfl
@[simp] theorem R.pure_eq {α : Type} (a : α) : (pure a : R α) = .ok a := rfl
abbrev Sl := List (Option D)
/-- a statement's end -/
inductive O where
  | stuck
  | nx (r : Sl)
  | rt (d : D) (r : Sl)
  | exc (x : Exc) (r : Sl)

structure Grow (Hs H Hs' H' : Hp) : Prop where
  s : Same Hs Hs'
  h : Same H H'
  n : ∀ a, Hs' a ≠ none → Hs a ≠ none ∨ H a = none
  sub : Same Hs' H'
  t : ∀ P, LamX.TabS H P lamQ → LamX.TabS H' P lamQ
theorem Grow.refl {Hs H : Hp} (e : Same Hs H) : Grow Hs H Hs H := ⟨Same.refl _, Same.refl _, fun _ z => .inl z, e, fun _ z => z⟩
theorem tab_upd {H : Hp} {p : Addr} {o : HO} (hp : H p = none) (P : Addr) (z : LamX.TabS H P lamQ) : LamX.TabS (upd H p o) P lamQ := z.ext fun b u q => by
  rw [upd_ne (ne_of_none q hp)]
  exact q
theorem Grow.trans {Hs H H1s H1 H2s H2 : Hp} (a : Grow Hs H H1s H1) (b : Grow H1s H1 H2s H2) : Grow Hs H H2s H2 where
  s := a.s.trans b.s
  h := a.h.trans b.h
  n := fun c z => by
    rcases b.n c z with q | q
    · exact a.n c q
    · exact .inr (a.h.free q)
  sub := b.sub
  t := fun P z => b.t P (a.t P z)
theorem Same.updNew {H : Hp} {p : Addr} {o : HO} (hp : H p = none) : Same H (upd H p o) := ⟨fun b u q _ => by
  rw [upd_ne (ne_of_none q hp)]
  exact q⟩
theorem Same.updBoth {Hs H : Hp} (e : Same Hs H) {p : Addr} {o : HO} : Same (upd Hs p o) (upd H p o) := ⟨fun b u q nt => by
  by_cases h : b = p
  · rw [h, upd_same] at q
    rw [h, upd_same]
    exact q
  · rw [upd_ne h] at q nt
    rw [upd_ne h]
    exact e.k _ _ q nt⟩
theorem tab_mut {H : Hp} {D : Addr} {o o' : HO} (hD : H D = some o) (P : Addr) (z : LamX.TabS H P lamQ) (n1 : NT o := by intro _ z; cases z) (n2 : ∀ c q, o ≠ LamX.CodeO c q := by intro _ _ z; unfold LamX.CodeO at z; cases z) : LamX.TabS (upd H D o') P lamQ := by
  obtain ⟨ps, h1, h2, h3⟩ := z
  have e : ∀ b u, H b = some u → u ≠ o → upd H D o' b = some u := fun b u q n => by
    rw [upd_ne fun w => n (by rw [w, hD] at q; exact (Option.some.inj q).symm)]
    exact q
  refine ⟨ps, e _ _ h1 fun w => n1 ps w.symm, h2, fun pos cv hc => ?_⟩
  obtain ⟨c, e1, e2⟩ := h3 pos cv hc
  exact ⟨c, e1, e _ _ e2 fun w => n2 c lamQ w.symm⟩
/-- a new stable object -/
theorem Grow.new {Hs H : Hp} (e : Same Hs H) {p : Addr} {o : HO} (hp : H p = none) : Grow Hs H (upd Hs p o) (upd H p o) where
  s := Same.updNew (e.free hp)
  h := Same.updNew hp
  n := fun a z => by
    by_cases h : a = p
    · exact .inr (h ▸ hp)
    · rw [upd_ne h] at z
      exact .inl z
  sub := Same.updBoth e
  t := tab_upd hp
/-- a new object that may yet be changed -/
theorem Grow.fresh {Hs H : Hp} (e : Same Hs H) {p : Addr} {o : HO} (hp : H p = none) : Grow Hs H Hs (upd H p o) where
  s := Same.refl _
  h := Same.updNew hp
  n := fun a z => .inl z
  sub := e.trans (Same.updNew hp)
  t := tab_upd hp
theorem Grow.same {Hs H H' : Hp} (e : Same Hs H) (k : Same H H') (tt : ∀ P, LamX.TabS H P lamQ → LamX.TabS H' P lamQ) : Grow Hs H Hs H' where
  s := Same.refl _
  h := k
  n := fun _ z => .inl z
  sub := e.trans k
  t := tt

/-- the entry of a def: the classes, the heap, what stays as it is, what may be read -/
structure En where
  cl : Cl
  h : Hp
  s : Hp
  b : Hp
def En.N (E : En) (a : Addr) : Prop := E.h a = none
inductive Slots (E : En) (Hs H : Hp) : List Kd → Sl → L2.St → List Addr → Prop
  | nil : Slots E Hs H [] [] [] []
  | skip {k : Kd} {x : Option V} {ks : List Kd} {r : Sl} {t : L2.St} {As : List Addr} : Slots E Hs H ks r t As → Slots E Hs H (k :: ks) (none :: r) (x :: t) As
  | cons {k : Kd} {d : D} {v : V} {A : List Addr} {ks : List Kd} {r : Sl} {t : L2.St} {As : List Addr} : ORep E.cl E.N E.b Hs H k d v A → Slots E Hs H ks r t As → Slots E Hs H (k :: ks) (some d :: r) (some v :: t) (A ++ As)
structure StOk (E : En) (Hs H : Hp) (ks : List Kd) (r : Sl) (t : L2.St) (As : List Addr) : Prop where
  sl : Slots E Hs H ks r t As
  nd : As.Nodup
  dis : ∀ a ∈ As, Hs a = none ∧ E.b a = none
  es : Same E.s Hs
  sub : Same Hs H
  eb : Same E.b H
  new : ∀ a, Hs a ≠ none → E.s a ≠ none ∨ E.h a = none
  dom : ∀ a, H a = none → E.h a = none
  tb : ∀ P, LamX.TabS E.h P lamQ → LamX.TabS H P lamQ
def StRel (E : En) (Hs H : Hp) (ks : List Kd) (r : Sl) (t : L2.St) : Prop := ∃ As, StOk E Hs H ks r t As

section
variable {E : En} {Hs H Hs' H' : Hp} {ks : List Kd} {r : Sl} {t : L2.St} {As : List Addr}
theorem Slots.mono (e : Same Hs Hs') : ∀ {ks : List Kd} {r : Sl} {t : L2.St} {As : List Addr}, (∀ a ∈ As, H' a = H a) → Slots E Hs H ks r t As → Slots E Hs' H' ks r t As
  | _, _, _, _, _, .nil => .nil
  | _, _, _, _, k, .skip h => .skip (Slots.mono e k h)
  | _, _, _, _, k, .cons h1 h2 => .cons (ORep.mono e (Same.refl _) (fun _ z => z) _ _ _ _ (fun a ha => k a (List.mem_append_left _ ha)) h1) (Slots.mono e (fun a ha => k a (List.mem_append_right _ ha)) h2)
mutual
theorem ORep.here {cl : Cl} {N : Addr → Prop} {B Hs H : Hp} : ∀ (k : Kd) (d : D) (v : V) (A : List Addr), ORep cl N B Hs H k d v A → ∀ a ∈ A, ∃ o, H a = some o ∧ NT o
  | .val, _, _, _, h => by cases h; intro a z; cases z
  | .bor, _, _, _, h => by cases h <;> (intro a z; cases z)
  | .own n, _, _, _, h => by
    cases h with
    | ownL _ h1 _ => intro a z; simp at z; subst z; exact ⟨_, h1, by intro _ z; cases z⟩
    | ownK _ h1 _ => intro a z; simp at z; subst z; exact ⟨_, h1, by intro _ z; cases z⟩
    | ownV _ _ => intro a z; cases z
  | .obj n ks, _, _, _, h => by
    cases h with
    | obj _ _ h2 h3 =>
      intro a z
      rcases List.mem_cons.mp z with e | z
      · rw [e]; exact ⟨_, h2, by intro _ z; cases z⟩
      · exact OFs.here ks _ _ _ h3 a z
  | .adr _, _, _, _, h => by cases h; intro a z; cases z
  | .lls n k, _, _, _, h => by
    cases h with
    | lls _ h1 h2 =>
      intro a z
      rcases List.mem_cons.mp z with e | z
      · rw [e]; exact ⟨_, h1, by intro _ z; cases z⟩
      · exact OLs.all (fun d v A o => ORep.here k d v A o) h2 a z
    | llT _ h1 h2 =>
      intro a z
      rcases List.mem_cons.mp z with e | z
      · rw [e]; exact ⟨_, h1, by intro _ z; cases z⟩
      · exact OLs.all (fun d v A o => ORep.here k d v A o) h2 a z
    | llV _ _ => intro a z; cases z
theorem OFs.here {cl : Cl} {N : Addr → Prop} {B Hs H : Hp} : ∀ (ks : List (Str × Kd)) (ds : List (Str × D)) (xs : List (Str × V)) (A : List Addr), OFs cl N B Hs H ks ds xs A → ∀ a ∈ A, ∃ o, H a = some o ∧ NT o
  | [], _, _, _, h => by cases h; intro a z; cases z
  | (f, k) :: ks, _, _, _, h => by
    cases h with
    | cons h1 h2 =>
      intro a z
      rcases List.mem_append.mp z with z | z
      · exact ORep.here k _ _ _ h1 a z
      · exact OFs.here ks _ _ _ h2 a z
end
theorem Slots.here : ∀ {ks : List Kd} {r : Sl} {t : L2.St} {As : List Addr}, Slots E Hs H ks r t As → ∀ a ∈ As, ∃ o, H a = some o ∧ NT o
  | _, _, _, _, .nil, a, z => by cases z
  | _, _, _, _, .skip h, a, z => Slots.here h a z
  | _, _, _, _, .cons h1 h2, a, z => by
    rcases List.mem_append.mp z with z | z
    · exact ORep.here _ _ _ _ h1 a z
    · exact Slots.here h2 a z
theorem Slots.len : ∀ {ks : List Kd} {r : Sl} {t : L2.St} {As : List Addr}, Slots E Hs H ks r t As → r.length = ks.length ∧ t.length = ks.length
  | _, _, _, _, .nil => ⟨rfl, rfl⟩
  | _, _, _, _, .skip h => by simp [Slots.len h]
  | _, _, _, _, .cons _ h => by simp [Slots.len h]
theorem StOk.grow (S : StOk E Hs H ks r t As) (g : Grow Hs H Hs' H') : StOk E Hs' H' ks r t As := by
  have hh := S.sl.here
  refine ⟨S.sl.mono g.s fun a ha => ?_, S.nd, fun a ha => ⟨?_, (S.dis a ha).2⟩, S.es.trans g.s, g.sub, S.eb.trans g.h, fun a z => ?_, fun a z => S.dom a (g.h.free z), fun P z => g.t P (S.tb P z)⟩
  · obtain ⟨o, e, nt⟩ := hh a ha
    rw [e]
    exact g.h.at _ _ e nt
  · cases q : Hs' a with
    | none => rfl
    | some u =>
      rcases g.n a (by rw [q]; simp) with z | z
      · exact absurd (S.dis a ha).1 z
      · obtain ⟨o, e, _⟩ := hh a ha
        rw [e] at z
        cases z
  · rcases g.n a z with q | q
    · exact S.new a q
    · exact .inr (S.dom a q)
theorem StRel.grow (S : StRel E Hs H ks r t) (g : Grow Hs H Hs' H') : StRel E Hs' H' ks r t := let ⟨As, q⟩ := S; ⟨As, q.grow g⟩
theorem StRel.sub (S : StRel E Hs H ks r t) : Same Hs H := let ⟨_, q⟩ := S; q.sub
/-- the place i of the state -/
theorem Slots.at_ : ∀ {ks : List Kd} {r : Sl} {t : L2.St} {As : List Addr} (i : Nat) {k : Kd}, Slots E Hs H ks r t As → ks[i]? = some k →
    ∃ (pre A post : List Addr), As = pre ++ (A ++ post) ∧ (∀ d, r[i]? = some (some d) → ∃ v, t[i]? = some (some v) ∧ ORep E.cl E.N E.b Hs H k d v A) ∧
      (∀ k' d v A', ORep E.cl E.N E.b Hs H k' d v A' → Slots E Hs H (ks.set i k') (r.set i (some d)) (t.set i (some v)) (pre ++ (A' ++ post))) ∧
      (∀ k' x, Slots E Hs H (ks.set i k') (r.set i none) (t.set i x) (pre ++ post)) ∧
      (∀ Hs' H', Same Hs Hs' → (∀ a ∈ pre ++ post, H' a = H a) → ∀ k' d v A', ORep E.cl E.N E.b Hs' H' k' d v A' → Slots E Hs' H' (ks.set i k') (r.set i (some d)) (t.set i (some v)) (pre ++ (A' ++ post)))
  | _, _, _, _, i, k, .nil, e => by simp at e
  | _, _, _, _, 0, k, .skip (k := k0) (r := r) (t := t) (As := As) h, e => by
    refine ⟨[], [], As, rfl, fun d z => ?_, fun k' d v A' o => .cons (A := A') (As := As) o h, fun k' x => .skip h, fun Hs' H' s q k' d v A' o => .cons (A := A') (As := As) o (h.mono s q)⟩
    have z' : (some none : Option (Option D)) = some (some d) := z
    cases z'
  | _, _, _, _, 0, k, .cons (k := k0) (d := d0) (v := v0) (A := A0) (As := As) o h, e => by
    have e' : k0 = k := by simpa using e
    subst e'
    refine ⟨[], A0, As, rfl, fun d z => ?_, fun k' d v A' o' => .cons (A := A') (As := As) o' h, fun k' x => .skip h, fun Hs' H' s q k' d v A' o => .cons (A := A') (As := As) o (h.mono s q)⟩
    have z' : (some (some d0) : Option (Option D)) = some (some d) := z
    cases z'
    exact ⟨v0, rfl, o⟩
  | _, _, _, _, i + 1, k, .skip h, e => by
    obtain ⟨pre, A, post, e1, e2, e3, e4, e5⟩ := Slots.at_ i h (by simpa using e)
    exact ⟨pre, A, post, e1, fun d z => e2 d (by simpa using z), fun k' d v A' o => .skip (e3 k' d v A' o), fun k' x => .skip (e4 k' x), fun Hs' H' s q k' d v A' o => .skip (e5 Hs' H' s q k' d v A' o)⟩
  | _, _, _, _, i + 1, k, .cons (A := A0) o h, e => by
    obtain ⟨pre, A, post, e1, e2, e3, e4, e5⟩ := Slots.at_ i h (by simpa using e)
    refine ⟨A0 ++ pre, A, post, by rw [e1, List.append_assoc], fun d z => e2 d (by simpa using z), fun k' d v A' o' => ?_, fun k' x => ?_, fun Hs' H' s q k' d v A' o' => ?_⟩
    · rw [List.append_assoc]
      exact .cons o (e3 k' d v A' o')
    · rw [List.append_assoc]
      exact .cons o (e4 k' x)
    · rw [List.append_assoc]
      exact .cons (ORep.mono s (Same.refl _) (fun _ z => z) _ _ _ _ (fun a ha => q a (List.mem_append_left _ (List.mem_append_left _ ha))) o)
        (e5 Hs' H' s (fun a ha => q a (by
          rcases List.mem_append.mp ha with z | z
          · exact List.mem_append_left _ (List.mem_append_right _ z)
          · exact List.mem_append_right _ z)) k' d v A' o')
end
end VL

namespace VL
open PySem PySem.Spec PyProof.Rows L2

class Md where
  n : Bool
@[reducible] def mZ : Md := ⟨false⟩
namespace ModeZ
scoped instance mZi : Md := mZ
end ModeZ
variable {md : Md}
def Takes [md : Md] (X : Cx) (W : WX) : Prop := match md.n with
  | true => L2N.Takes X W
  | false => L2.Takes X W
def CXM [md : Md] (P : Program) (w : World) : CXT := match md.n with
  | true => L2N.CX P w
  | false => L2.CX P w
theorem passAt {X : Cx} {W : WX} (tk : Takes X W) (σ : L2.St) : PassesAt (CXM X.prog X.w) X σ (WE W σ) := by
  cases md with
  | mk n => cases n with
    | false => exact L2.passAt tk σ
    | true => exact L2N.passAt tk σ
theorem takes_of {X : Cx} {E : XK} (hs : X.stack = X.env :: X.outer) (hf : X.env.frame = some X.env.locals) (hex : X.ex = []) {E₁ : Value → Shared → Prop}
    (hx : X.xe = fun e s' => wpAny (model X.prog X.w) X.A (leaving X.env e) (fun _ s'' => CXM X.prog X.w X.outer X.H_0 X.s_0 E e s'') E₁ s') : Takes X (fun cls d _ H => E cls d H) := by
  cases md with
  | mk n => cases n with
    | false => exact L2.takes_of hs hf hex hx
    | true => exact L2N.takes_of hs hf hex hx
theorem takesF {X : Cx} : Takes X (fun _ _ _ _ => False) := by
  obtain ⟨n⟩ := md
  cases n
  · intro _ _ x
    obtain ⟨_, _, _, _, _, _, _, _, _, _, _, _, _, _, _, _, z⟩ := x
    exact z.elim
  · intro _ _ x
    obtain ⟨_, _, _, _, _, _, _, _, _, _, _, _, _, _, _, _, z⟩ := x
    exact z.elim
def WEx (X : Cx) (e : Expr) : TE := fun σ H Q => ∀ (pins : List (Addr × Obj)) (s : Shared), Inv X pins σ H s → wpAny (model X.prog X.w) X.A (eval e X.env) (EP X pins σ Q) X.xe s
theorem pe_we {X : Cx} {e : Expr} : PE X e (WEx X e) := ⟨fun pins s _ _ _ I h => h pins s I⟩
theorem we_of {X : Cx} {e : Expr} {t : TE} {σ : L2.St} {H : Hp} {Q : VK} (p : PE X e t) (h : t σ H Q) : WEx X e σ H Q := fun pins s I => p.run pins s σ H Q I h
def WTx (X : Cx) (e : Expr) : TT := fun σ H Q => ∀ (pins : List (Addr × Obj)) (s : Shared), Inv X pins σ H s → wpAny (model X.prog X.w) X.A (isTrue e X.env (eval e X.env)) (TP X pins σ Q) X.xe s
theorem pt_wt {X : Cx} {e : Expr} : PT X e (WTx X e) := ⟨fun pins s _ _ _ I h => h pins s I⟩
theorem wt_of {X : Cx} {e : Expr} {t : TT} {σ : L2.St} {H : Hp} {Q : Bool → Hp → Prop} (p : PT X e t) (h : t σ H Q) : WTx X e σ H Q := fun pins s I => p.run pins s σ H Q I h
def WAx (X : Cx) (es : List Expr) : TA := fun σ H Q => ∀ (pos : Pos) (pins : List (Addr × Obj)) (s : Shared), Inv X pins σ H s → wpAny (model X.prog X.w) X.A (spliced (backTo pos (starEach es X.env))) (AP X pins σ Q) X.xe s
theorem pa_wa {X : Cx} {es : List Expr} : PA X es (WAx X es) := ⟨fun pos pins s _ _ _ I h => h pos pins s I⟩
theorem wa_of {X : Cx} {es : List Expr} {t : TA} {σ : L2.St} {H : Hp} {Q : List V → Hp → Prop} (p : PA X es t) (h : t σ H Q) : WAx X es σ H Q := fun pos pins s I => p.run pos pins s σ H Q I h
def WSx (X : Cx) (st : Stmt) : TS := fun Dn σ H => ∀ (pins : List (Addr × Obj)) (s : Shared), Inv X pins σ H s → wpAny (model X.prog X.w) X.A (exec st X.env) (SP X pins Dn) X.xe s
theorem ps_ws {X : Cx} {st : Stmt} : PS X st (WSx X st) := ⟨fun pins s _ _ _ I h => h pins s I⟩
theorem ws_of {X : Cx} {st : Stmt} {t : TS} {σ : L2.St} {H : Hp} {Dn : Ends} (p : PS X st t) (h : t Dn σ H) : WSx X st Dn σ H := fun pins s I => p.run pins s σ H Dn I h
def WSs (X : Cx) (st : List Stmt) : TS := fun Dn σ H => ∀ (pins : List (Addr × Obj)) (s : Shared), Inv X pins σ H s → wpAny (model X.prog X.w) X.A (execs st X.env) (SP X pins Dn) X.xe s
theorem pss_ws {X : Cx} {st : List Stmt} : PSs X st (WSs X st) := ⟨fun pins s _ _ _ I h => h pins s I⟩
theorem wss_of {X : Cx} {st : List Stmt} {t : TS} {σ : L2.St} {H : Hp} {Dn : Ends} (p : PSs X st t) (h : t Dn σ H) : WSs X st Dn σ H := fun pins s I => p.run pins s σ H Dn I h

/-- d lies at v behind a step from the heap H0 -/
def RK (cl : Cl) (k : Kd) (H0 Hs H : Hp) (d : D) (v : V) : Prop :=
  ∃ A, ORep cl (fun a => H0 a = none) H Hs H k d v A ∧ A.Nodup ∧ ∀ a ∈ A, Hs a = none ∧ H0 a = none
def XRep (cl : Cl) (Hs H : Hp) (x : Exc) (c : Value) (dd : Option Addr) : Prop :=
  ∃ a, cl.f x.cls = some a ∧ c = .ref a ∧ match x.at_ with
    | none => dd = none
    | some d => ∃ p v, dd = some p ∧ Hs p = some (.xd [("at", v)]) ∧ Rep cl Hs d v
abbrev WX0 := Value → Option Addr → Hp → Prop
def Post (cl : Cl) (k : Kd) (Hs H : Hp) (Q : VK) (W : WX0) : R D → Prop
  | .stuck => False
  | .exc x => ∀ c dd Hs' H', Grow Hs H Hs' H' → XRep cl Hs' H' x c dd → W c dd H'
  | .ok d => ∀ v Hs' H', Grow Hs H Hs' H' → RK cl k H Hs' H' d v → Q v H'
section
variable {cl : Cl} {k k1 k2 : Kd} {Hs H Hs' H' : Hp} {Q Q1 : VK} {W : WX0}
theorem Post.grow {r : R D} (P : Post cl k Hs H Q W r) (g : Grow Hs H Hs' H') : Post cl k Hs' H' Q W r := by
  cases r with
  | stuck => exact P
  | exc x => exact fun c dd Hs2 H2 g2 x2 => P c dd Hs2 H2 (g.trans g2) x2
  | ok d =>
    intro v Hs2 H2 g2 ⟨A, o, nd, z⟩
    exact P v Hs2 H2 (g.trans g2) ⟨A, ORep.mono (Same.refl _) (Same.refl _) (fun a q => g.h.free q) _ _ _ _ (fun _ _ => rfl) o, nd, fun a ha => ⟨(z a ha).1, g.h.free (z a ha).2⟩⟩
theorem Post.imp {r : R D} {F : D → R D} (P : Post cl k2 Hs H Q W (r >>= F))
    (h : ∀ d v Hs' H', r = .ok d → Grow Hs H Hs' H' → RK cl k1 H Hs' H' d v → Post cl k2 Hs' H' Q W (F d) → Q1 v H') : Post cl k1 Hs H Q1 W r := by
  cases r with
  | stuck => exact P
  | exc x => exact P
  | ok d => exact fun v Hs' H' g rk => h d v Hs' H' rfl g rk (Post.grow (r := F d) P g)
/-- what was owned may be frozen -/
def Kd.fine : Kd → Bool
  | .bor => false
  | .adr _ => false
  | .obj _ ks => fines ks
  | .lls _ k => Kd.fine k
  | _ => true
where
  fines : List (Str × Kd) → Bool
    | [] => true
    | (_, k) :: r => Kd.fine k && fines r
theorem OLs.reps {N : Addr → Prop} {B Hs H T : Hp} {k : Kd} (Q : List Addr → Prop) (t1 : ∀ A As, Q (A ++ As) → Q A) (t2 : ∀ A As, Q (A ++ As) → Q As) (f : ∀ d v A, Q A → ORep cl N B Hs H k d v A → Rep cl T d v) : ∀ {ds : List D} {xs : List V} {As : List Addr}, Q As → OLs cl N B Hs H k ds xs As → RepL cl T ds xs
  | [], _, _, _, h => by cases h; exact .nil
  | d :: ds, _, _, t, h => by
    cases h with
    | cons h1 h2 => exact .cons (f _ _ _ (t1 _ _ t) h1) (OLs.reps Q t1 t2 f (t2 _ _ t) h2)
mutual
theorem ORep.freeze {N : Addr → Prop} {B T : Hp} (e : Same Hs T) : ∀ (k : Kd) (d : D) (v : V) (A : List Addr), k.fine = true → (∀ a ∈ A, T a = H a) → ORep cl N B Hs H k d v A → Rep cl T d v
  | .val, _, _, _, _, _, h => by
    cases h with
    | val h1 => exact Rep.same e _ _ h1
  | .bor, _, _, _, z, _, _ => by cases z
  | .own n, _, _, _, _, t, h => by
    cases h with
    | ownL _ h1 h2 => exact .lst ((t _ List.mem_cons_self).trans h1) (RepL.same e _ _ h2)
    | ownK _ h1 h2 => exact .dct (.inl ((t _ List.mem_cons_self).trans h1)) (RepK.same e _ _ h2)
    | ownV _ h1 => exact Rep.same e _ _ h1
  | .obj n ks, _, _, _, z, t, h => by
    cases h with
    | obj _ h1 h2 h3 => exact .obj h1 ((t _ List.mem_cons_self).trans h2) (OFs.freeze e ks _ _ _ (by simpa [Kd.fine] using z) (fun a ha => t a (List.mem_cons_of_mem _ ha)) h3)
  | .adr _, _, _, _, z, _, _ => by cases z
  | .lls n k, _, _, _, z, t, h => by
    cases h with
    | lls _ h1 h2 => exact .lst ((t _ List.mem_cons_self).trans h1) (OLs.reps (fun A => ∀ a ∈ A, T a = H a) (fun _ _ t a ha => t a (List.mem_append_left _ ha)) (fun _ _ t a ha => t a (List.mem_append_right _ ha)) (fun d v A t o => ORep.freeze e k d v A z t o) (fun a ha => t a (List.mem_cons_of_mem _ ha)) h2)
    | llT _ h1 h2 => exact .tup ((t _ List.mem_cons_self).trans h1) (OLs.reps (fun A => ∀ a ∈ A, T a = H a) (fun _ _ t a ha => t a (List.mem_append_left _ ha)) (fun _ _ t a ha => t a (List.mem_append_right _ ha)) (fun d v A t o => ORep.freeze e k d v A z t o) (fun a ha => t a (List.mem_cons_of_mem _ ha)) h2)
    | llV _ h1 => exact Rep.same e _ _ h1
theorem OFs.freeze {N : Addr → Prop} {B T : Hp} (e : Same Hs T) : ∀ (ks : List (Str × Kd)) (ds : List (Str × D)) (xs : List (Str × V)) (A : List Addr), Kd.fine.fines ks = true → (∀ a ∈ A, T a = H a) → OFs cl N B Hs H ks ds xs A → RepF cl T ds xs
  | [], _, _, _, _, _, h => by cases h; exact .nil
  | (f, k) :: ks, _, _, _, z, t, h => by
    have z' : k.fine = true ∧ Kd.fine.fines ks = true := by simpa [Kd.fine.fines] using z
    cases h with
    | cons h1 h2 => exact .cons (ORep.freeze e k _ _ _ z'.1 (fun a ha => t a (List.mem_append_left _ ha)) h1) (OFs.freeze e ks _ _ _ z'.2 (fun a ha => t a (List.mem_append_right _ ha)) h2)
end
/-- the stable heap with A -/
def plus (Hs H : Hp) (A : List Addr) : Hp := fun a => if a ∈ A then H a else Hs a
theorem plus_same {A : List Addr} (z : ∀ a ∈ A, Hs a = none) : Same Hs (plus Hs H A) := ⟨fun b o q _ => by
  unfold plus
  rw [if_neg fun h => by rw [z b h] at q; cases q]
  exact q⟩
theorem plus_sub {A : List Addr} (e : Same Hs H) : Same (plus Hs H A) H := ⟨fun b o q nt => by
  unfold plus at q
  split at q
  · exact q
  · exact e.k _ _ q nt⟩
theorem RK.freeze {H0 : Hp} {d : D} {v : V} (g : Grow Hs H Hs' H') (f : k.fine = true) (h : RK cl k H Hs' H' d v) : ∃ Hs2, Grow Hs H Hs2 H' ∧ RK cl .val H Hs2 H' d v := by
  obtain ⟨A, o, nd, z⟩ := h
  have e := plus_same (H := H') fun a ha => (z a ha).1
  refine ⟨plus Hs' H' A, ⟨g.s.trans e, g.h, fun a q => ?_, plus_sub g.sub, g.t⟩, [], .val (ORep.freeze e k _ _ A f (fun a ha => by unfold plus; rw [if_pos ha]) o), List.nodup_nil, fun a ha => nomatch ha⟩
  unfold plus at q
  split at q
  · rename_i ha
    exact .inr (z a ha).2
  · exact g.n a q
theorem RK.val {H0 : Hp} {d : D} {v : V} (h : Rep cl Hs d v) : RK cl .val H0 Hs H d v := ⟨[], .val h, List.nodup_nil, fun a ha => nomatch ha⟩
theorem RK.bor {H0 : Hp} {d : D} {v : V} (h : Rep cl Hs d v) : RK cl .bor H0 Hs H d v := ⟨[], .borV h, List.nodup_nil, fun a ha => nomatch ha⟩
theorem RK.rep {H0 : Hp} {d : D} {v : V} (h : RK cl .val H0 Hs H d v) : Rep cl Hs d v := by
  obtain ⟨A, o, _⟩ := h
  cases o with
  | val r => exact r
theorem RK.rb {H0 : Hp} {d : D} {v : V} (h : RK cl .bor H0 Hs H d v) : RB cl Hs H d v := by
  obtain ⟨A, o, _⟩ := h
  cases o with
  | borV r => exact .val r
  | borL h1 h2 => exact .lst h1 h2
  | borK h1 h2 => exact .dct h1 h2
  | borO h0 h1 h2 => exact .obj h0 h1 h2
theorem RB.grow {d : D} {v : V} (h : RB cl Hs H d v) (g : Grow Hs H Hs' H') : RB cl Hs' H' d v := by
  cases h with
  | val r => exact .val (Rep.same g.s _ _ r)
  | lst h1 h2 => exact .lst (g.h.at _ _ h1) (RepL.same g.s _ _ h2)
  | dct h1 h2 => exact .dct (g.h.rd h1) (RepK.same g.s _ _ h2)
  | obj h0 h1 h2 => exact .obj h0 (g.h.at _ _ h1) (RBF.same g.s g.h h2)
theorem RB.rk {H0 : Hp} {d : D} {v : V} (h : RB cl Hs H d v) : RK cl .bor H0 Hs H d v := by
  refine ⟨[], ?_, List.nodup_nil, fun a ha => nomatch ha⟩
  cases h with
  | val r => exact .borV r
  | lst h1 h2 => exact .borL h1 h2
  | dct h1 h2 => exact .borK h1 h2
  | obj h0 h1 h2 => exact .borO h0 h1 h2
/-- a borrowed list -/
theorem RB.lstInv {ds : List D} {v : V} (h : RB cl Hs H (.lst ds) v) (e : Same Hs H) : ∃ a xs, v = .ref a ∧ H a = some (.lst xs) ∧ RepL cl Hs ds xs := by
  cases h with
  | val r =>
    cases r with
    | lst h1 h2 => exact ⟨_, _, rfl, e.at _ _ h1, h2⟩
  | lst h1 h2 => exact ⟨_, _, rfl, h1, h2⟩
theorem RB.tupInv {ds : List D} {v : V} (h : RB cl Hs H (.tup ds) v) (e : Same Hs H) : ∃ a xs, v = .ref a ∧ H a = some (.tup xs) ∧ RepL cl Hs ds xs := by
  cases h with
  | val r =>
    cases r with
    | tup h1 h2 => exact ⟨_, _, rfl, e.at _ _ h1, h2⟩
theorem RB.dctInv {ds : List (Key × D)} {v : V} (h : RB cl Hs H (.dct ds) v) (e : Same Hs H) : ∃ a xs, v = .ref a ∧ Rd H a (.dK xs) ∧ RepK cl Hs ds xs := by
  cases h with
  | val r =>
    cases r with
    | dct h1 h2 => exact ⟨_, _, rfl, e.rd h1, h2⟩
  | dct h1 h2 => exact ⟨_, _, rfl, h1, h2⟩
theorem RB.intInv {i : Int} {v : V} (h : RB cl Hs H (.int i) v) : v = .int i := by
  cases h with
  | val r => cases r; rfl
theorem RB.blInv {i : Bool} {v : V} (h : RB cl Hs H (.bl i) v) : v = .bl i := by
  cases h with
  | val r => cases r; rfl
theorem RB.strInv {i : Str} {v : V} (h : RB cl Hs H (.str i) v) : v = .str i := by
  cases h with
  | val r => cases r; rfl
theorem RB.nonInv {v : V} (h : RB cl Hs H .non v) : v = .non := by
  cases h with
  | val r => cases r; rfl
/-- a new list, not yet stable -/
theorem RK.ownNew {ds : List D} {xs : List V} {p : Addr} (e : Same Hs H) (hp : H p = none) (r : RepL cl Hs ds xs) : RK cl (.own none) H Hs (upd H p (.lst xs)) (.lst ds) (.ref p) :=
  ⟨[p], .ownL ⟨hp, fun _ z => nomatch z⟩ upd_same r, by simp, fun a ha => by
    have q : a = p := by simpa using ha
    subst q
    exact ⟨e.free hp, hp⟩⟩
theorem RK.ownPlain {H0 : Hp} {d : D} {v : V} (p : d.plain = true) (r : Rep cl Hs d v) : RK cl (.own none) H0 Hs H d v := ⟨[], .ownV p r, List.nodup_nil, fun a ha => nomatch ha⟩
/-- the end of a value that is plain -/
theorem Post.fin {d : D} {v : V} (P : Post cl (.own none) Hs H Q W (.ok d)) (e : Same Hs H) (p : d.plain = true) (r : Rep cl Hs d v) : Q v H := P v Hs H (Grow.refl e) (RK.ownPlain p r)
theorem Post.finV {d : D} {v : V} (P : Post cl .val Hs H Q W (.ok d)) (e : Same Hs H) (r : Rep cl Hs d v) : Q v H := P v Hs H (Grow.refl e) (RK.val r)
theorem Post.finL {ds : List D} {xs : List V} {p : Addr} (P : Post cl (.own none) Hs H Q W (.ok (.lst ds))) (e : Same Hs H) (hp : H p = none) (r : RepL cl Hs ds xs) : Q (.ref p) (upd H p (.lst xs)) :=
  P _ Hs _ (Grow.fresh e hp) (RK.ownNew e hp r)
end

structure SE [md : Md] (X : Cx) (E : En) (ks : List Kd) (k : Kd) (e : Expr) (g : Sl → R D) : Prop where
  run : ∀ (Hs H : Hp) (r : Sl) (σ : L2.St) (W : WX) (Q : VK), Takes X W → StRel E Hs H ks r σ → Post E.cl k Hs H Q (fun c dd H' => W c dd σ H') (g r) → WEx X e σ H Q
section
variable {X : Cx} {E : En} {ks : List Kd} {e : Expr} {g : Sl → R D}
theorem SE.toVal {k : Kd} (h : SE X E ks k e g) (f : k.fine = true := by rfl) : SE X E ks .val e g := by
  refine ⟨fun Hs H r σ W Q tk S P => ?_⟩
  refine h.run Hs H r σ W Q tk S ?_
  cases q : g r with
  | stuck => rw [q] at P; exact P
  | exc x => rw [q] at P; exact P
  | ok d =>
    rw [q] at P
    intro v Hs' H' gr rk
    obtain ⟨Hs2, g2, rk2⟩ := rk.freeze (H0 := H) gr f
    exact P v Hs2 H' g2 rk2
theorem SE.valBor (h : SE X E ks .val e g) : SE X E ks .bor e g := by
  refine ⟨fun Hs H r σ W Q tk S P => ?_⟩
  refine h.run Hs H r σ W Q tk S ?_
  cases q : g r with
  | stuck => rw [q] at P; exact P
  | exc x => rw [q] at P; exact P
  | ok d =>
    rw [q] at P
    intro v Hs' H' gr rk
    exact P v Hs' H' gr (RK.bor rk.rep)
theorem SE.toBor {k : Kd} (h : SE X E ks k e g) (f : k.fine = true := by rfl) : SE X E ks .bor e g := (h.toVal f).valBor
end
end VL

noncomputable section
namespace VL
open PySem PySem.Spec PyProof.Rows L2
variable {md : Md}

def NmOk (x : Str) : Prop := (x == ("__debug__" : Str)) = false ∧ (x == ("__classdict__" : Str)) = false
@[simp] def gVar (i : Nat) : Sl → R D := fun r => match r[i]? with
  | some (some d) => .ok d
  | _ => .stuck
@[simp] def gC (d : D) : Sl → R D := fun _ => .ok d
/-- a kind that may be borrowed -/
def Kd.lends : Kd → Bool
  | .obj _ ks => lendf ks
  | .adr _ => false
  | .lls _ _ => false
  | _ => true
where
  lendf : List (Str × Kd) → Bool
    | [] => true
    | (_, k) :: r => Kd.lends k && lendf r
section
variable {cl : Cl} {N : Addr → Prop} {B Hs H : Hp}
mutual
theorem ORep.rb (eb : Same B H) : ∀ (k : Kd) (d : D) (v : V) (A : List Addr), k.lends = true → ORep cl N B Hs H k d v A → RB cl Hs H d v
  | .val, _, _, _, _, h => by cases h with | val rp => exact .val rp
  | .bor, _, _, _, _, h => by
    cases h with
    | borV rp => exact .val rp
    | borL h1 h2 => exact .lst (eb.at _ _ h1) h2
    | borK h1 h2 => exact .dct (eb.rd h1) h2
    | borO h0 h1 h2 => exact .obj h0 (eb.at _ _ h1) (RBF.same (Same.refl _) eb h2)
  | .own n, _, _, _, _, h => by
    cases h with
    | ownL h0 h1 h2 => exact .lst h1 h2
    | ownK h0 h1 h2 => exact .dct (.inl h1) h2
    | ownV h0 h1 => exact .val h1
  | .obj n ks, _, _, _, l, h => by
    cases h with
    | obj h0 h1 h2 h3 => exact .obj h1 h2 (OFs.rb eb ks _ _ _ (by simpa [Kd.lends] using l) h3)
  | .adr a, _, _, _, l, _ => by cases l
  | .lls n k, _, _, _, l, _ => by cases l
theorem OFs.rb (eb : Same B H) : ∀ (ks : List (Str × Kd)) (ds : List (Str × D)) (xs : List (Str × V)) (A : List Addr), Kd.lends.lendf ks = true → OFs cl N B Hs H ks ds xs A → RBF cl Hs H ds xs
  | [], _, _, _, _, h => by cases h; exact .nil
  | (f, k) :: ks, _, _, _, l, h => by
    have l' : k.lends = true ∧ Kd.lends.lendf ks = true := by simpa [Kd.lends.lendf] using l
    cases h with
    | cons h1 h2 => exact .cons (ORep.rb eb k _ _ _ l'.1 h1) (OFs.rb eb ks _ _ _ l'.2 h2)
end
end
section
variable {X : Cx} {E : En} {ks : List Kd}
theorem StRel.get {Hs H : Hp} {r : Sl} {σ : L2.St} {i : Nat} {k : Kd} {d : D} (S : StRel E Hs H ks r σ) (hk : ks[i]? = some k) (hd : r[i]? = some (some d)) : ∃ v A, σ[i]? = some (some v) ∧ ORep E.cl E.N E.b Hs H k d v A := by
  obtain ⟨As, s⟩ := S
  obtain ⟨pre, A, post, _, h, _⟩ := s.sl.at_ i hk
  obtain ⟨v, e, o⟩ := h d hd
  exact ⟨v, A, e, o⟩
theorem gVar_ok {i : Nat} {r : Sl} {d : D} (h : gVar i r = .ok d) : r[i]? = some (some d) := by
  unfold gVar at h
  split at h
  · rename_i d' e
    cases h
    exact e
  · cases h
theorem gVar_exc {i : Nat} {r : Sl} {x : Exc} (h : gVar i r = .exc x) : False := by
  unfold gVar at h
  split at h <;> cases h
theorem se_var {i : Nat} {x : Str} {pos : Pos} (hk : ks[i]? = some .val := by rfl) (hN : X.N[i]? = some x := by rfl) (hv : Vis X.env.scope x := by first | exact Or.inl rfl | exact Or.inr (Or.inl rfl) | exact Or.inr (Or.inr rfl))
    (hq : NmOk x) : SE X E ks .val (.Name x pos) (gVar i) := by
  refine ⟨fun Hs H r σ W Q tk S P => ?_⟩
  refine we_of (pe_var hN hv hq.1 hq.2) ?_
  cases q : gVar i r with
  | stuck => rw [q] at P; exact P.elim
  | exc x => exact (gVar_exc q).elim
  | ok d =>
    rw [q] at P
    obtain ⟨v, A, e, o⟩ := S.get hk (gVar_ok q)
    cases o with
    | val rp => exact ⟨v, e, P.finV S.sub rp⟩
theorem se_varB {i : Nat} {k : Kd} {x : Str} {pos : Pos} (hk : ks[i]? = some k := by rfl) (hl : k.lends = true := by rfl) (hN : X.N[i]? = some x := by rfl) (hv : Vis X.env.scope x := by first | exact Or.inl rfl | exact Or.inr (Or.inl rfl) | exact Or.inr (Or.inr rfl))
    (hq : NmOk x) : SE X E ks .bor (.Name x pos) (gVar i) := by
  refine ⟨fun Hs H r σ W Q tk S P => ?_⟩
  refine we_of (pe_var hN hv hq.1 hq.2) ?_
  cases q : gVar i r with
  | stuck => rw [q] at P; exact P.elim
  | exc x => exact (gVar_exc q).elim
  | ok d =>
    rw [q] at P
    obtain ⟨v, A, e, o⟩ := S.get hk (gVar_ok q)
    have eb : Same E.b H := let ⟨_, s⟩ := S; s.eb
    exact ⟨v, e, P v Hs H (Grow.refl S.sub) (RB.rk (ORep.rb eb k _ _ _ hl o))⟩
theorem se_int {i : Int} {j : Nat} {pos : Pos} : SE X E ks .val (.Constant (.int i) j pos) (gC (.int i)) := ⟨fun Hs H r σ W Q tk S P => we_of pe_int (P.finV S.sub (.int i))⟩
theorem se_bl {b : Bool} {j : Nat} {pos : Pos} : SE X E ks .val (.Constant (.bool b) j pos) (gC (.bl b)) := ⟨fun Hs H r σ W Q tk S P => we_of pe_bl (P.finV S.sub (.bl b))⟩
theorem se_non {j : Nat} {pos : Pos} : SE X E ks .val (.Constant .none j pos) (gC .non) := ⟨fun Hs H r σ W Q tk S P => we_of pe_non (P.finV S.sub .non)⟩
theorem se_str {x : Str} {j : Nat} {pos : Pos} : SE X E ks .val (.Constant (.str x) j pos) (gC (.str x)) := ⟨fun Hs H r σ W Q tk S P => we_of pe_str (P.finV S.sub (.str x))⟩
/-- a module's constant: a number, a text -/
theorem se_globI {x : Str} {i : Int} {t : Tok} {pos : Pos} (hm : X.mg x = some (.int i t)) (hq : NmOk x) (hg : Gl X x := by rfl) : SE X E ks .val (.Name x pos) (gC (.int i)) :=
  ⟨fun Hs H r σ W Q tk S P => we_of (pe_glob (v := .int i) hg hm ⟨t, rfl⟩ hq.1) (P.finV S.sub (.int i))⟩
end

def OpV (K : PySem.W.Frag) (rr : R2) (k : Kd) (f : D → D → R D) : Prop :=
  ∀ (cl : Cl) (Hs H : Hp) (d1 d2 : D) (v1 v2 : V) (Q : VK) (W : WX0), Same Hs H → RB cl Hs H d1 v1 → RB cl Hs H d2 v2 → Post cl k Hs H Q W (f d1 d2) → (∀ x, f d1 d2 ≠ .exc x) → rr v1 v2 H Q
@[simp] def gBin (f : D → D → R D) (ga gb : Sl → R D) : Sl → R D := fun r => do
  let a ← ga r
  let b ← gb r
  f a b
def NoX (f : D → D → R D) : Prop := ∀ a b x, f a b ≠ .exc x
section
variable {X : Cx} {E : En} {ks : List Kd} {k : Kd} {a b : Expr} {ga gb : Sl → R D} {f : D → D → R D} {pos : Pos}
theorem bin_read {rr : R2} (hv : OpV X.K rr k f) (nx : NoX f) (ha : SE X E ks .bor a ga) (hb : SE X E ks .bor b gb) {Hs H : Hp} {r : Sl} {σ : L2.St} {W : WX} {Q : VK} (tk : Takes X W) (S : StRel E Hs H ks r σ)
    (P : Post E.cl k Hs H Q (fun c dd H' => W c dd σ H') (gBin f ga gb r)) : WEx X a σ H fun x H1 => WEx X b σ H1 fun y H2 => rr x y H2 Q := by
  refine ha.run _ _ _ _ _ _ tk S (P.imp fun d1 v1 Hs1 H1 e1 g1 k1 P1 => ?_)
  refine hb.run _ _ _ _ _ _ tk (S.grow g1) (P1.imp fun d2 v2 Hs2 H2 e2 g2 k2 P2 => ?_)
  exact hv _ _ _ _ _ _ _ _ _ g2.sub (k1.rb.grow g2) k2.rb P2 (nx _ _)
theorem se_bin {op : Operator} {rr : R2} (ho : OpR X (binaryOp op) rr) (hv : OpV X.K rr k f) (nx : NoX f) (ha : SE X E ks .bor a ga) (hb : SE X E ks .bor b gb) : SE X E ks k (.BinOp a op b pos) (gBin f ga gb) :=
  ⟨fun Hs H r σ W Q tk S P => we_of (pe_op ho pe_we pe_we) (bin_read hv nx ha hb tk S P)⟩
theorem se_cmp {op : CmpOp} {rr : R2} (ho : OpR X (compareOp op) rr) (hv : OpV X.K rr k f) (nx : NoX f) (ha : SE X E ks .bor a ga) (hb : SE X E ks .bor b gb) (hm : behindInMarks op b = false := by rfl) : SE X E ks k (.Compare a [op] [b] pos) (gBin f ga gb) :=
  ⟨fun Hs H r σ W Q tk S P => we_of (pe_cmpR ho pe_we pe_we hm) (bin_read hv nx ha hb tk S P)⟩
end

theorem oN_ex (n : Nat) : ∃ m : Nat, m = n := ⟨n, rfl⟩
theorem oI_ex (n : Int) : ∃ m : Int, m = n := ⟨n, rfl⟩
def szL : Nat := Classical.choose (oN_ex 16777216)
theorem szL_val : szL = 16777216 := Classical.choose_spec (oN_ex 16777216)
def i63 : Int := Classical.choose (oI_ex (2 ^ 63))
theorem i63_val : i63 = 2 ^ 63 := Classical.choose_spec (oI_ex (2 ^ 63))
def i64 : Int := Classical.choose (oI_ex (2 ^ 64))
theorem i64_val : i64 = 2 ^ 64 := Classical.choose_spec (oI_ex (2 ^ 64))
def n64 : Nat := Classical.choose (oN_ex (2 ^ 64))
theorem n64_val : n64 = 2 ^ 64 := Classical.choose_spec (oN_ex (2 ^ 64))
def n30 : Nat := Classical.choose (oN_ex 1073741824)
theorem n30_val : n30 = 1073741824 := Classical.choose_spec (oN_ex 1073741824)
def iMil : Int := Classical.choose (oI_ex 1000000)
theorem iMil_val : iMil = 1000000 := Classical.choose_spec (oI_ex 1000000)
theorem szL_eq : (sizeLine : Nat) = szL := by rw [sizeLine_eq, szL_val]
theorem le_szL {n : Nat} (h : n ≤ 16777216) : n ≤ szL := by rw [szL_val]; exact h
theorem lt_szL {n : Nat} (h : n < 16777216) : n < szL := by rw [szL_val]; exact h
@[simp] def dAdd : D → D → R D
  | .int i, .int j => .ok (.int (i + j))
  | .str x, .str y => if x.length + y.length ≤ szL then .ok (.str (x ++ y)) else .stuck
  | .lst xs, .lst ys => if xs.length + ys.length ≤ szL then .ok (.lst (xs ++ ys)) else .stuck
  | .tup xs, .tup ys => if xs ≠ [] ∧ xs.length + ys.length ≤ szL then .ok (.tup (xs ++ ys)) else .stuck
  | _, _ => .stuck

theorem RepL.nilInv {cl : Cl} {H : Hp} {ds : List D} {xs : List V} (r : RepL cl H ds xs) : xs = [] ↔ ds = [] := by
  cases r with
  | nil => simp
  | cons _ _ => simp
theorem opv_add {X : Cx} : OpV X.K (fun x y H Q => (rI0 (fun i j => .int (i + j)) x y H Q ∨ (∃ i j, x = .str i ∧ y = .str j ∧ i.length + j.length ≤ sizeLine ∧ Q (.str (i ++ j)) H)) ∨ (rCat x y H Q ∨ rCatT X.K x y H Q)) (.own none) dAdd := by
  intro cl Hs H d1 d2 v1 v2 Q W e b1 b2 P nx
  cases d1 <;> cases d2 <;> first | exact P.elim | skip
  · cases b1.intInv
    cases b2.intInv
    exact .inl (.inl ⟨_, _, rfl, rfl, P.fin e rfl (.int _)⟩)
  · cases b1.strInv
    cases b2.strInv
    dsimp only [dAdd] at P
    split at P
    · rename_i h
      exact .inl (.inr ⟨_, _, rfl, rfl, by rw [szL_eq]; exact h, P.fin e rfl (.str _)⟩)
    · exact P.elim
  · dsimp only [dAdd] at P
    split at P
    · rename_i h
      obtain ⟨a, xs, rfl, h1, r1⟩ := b1.lstInv e
      obtain ⟨b, ys, rfl, h2, r2⟩ := b2.lstInv e
      exact .inr (.inl ⟨a, b, xs, ys, rfl, rfl, h1, h2, by rw [szL_eq, r1.length, r2.length]; exact h, fun p hp => P.finL e hp (r1.app r2)⟩)
    · exact P.elim
  · dsimp only [dAdd] at P
    split at P
    · rename_i h
      obtain ⟨n1, h⟩ := h
      have b1' := b1
      obtain ⟨a, xs, rfl, h1, r1⟩ := b1.tupInv e
      obtain ⟨b, ys, rfl, h2, r2⟩ := b2.tupInv e
      refine .inr (.inr ⟨a, b, xs, ys, rfl, rfl, SqT.of h1, SqT.of h2, fun z => n1 (r1.nilInv.mp z), by rw [szL_eq, r1.length, r2.length]; exact h, fun z => ?_, fun _ p hp => ?_⟩)
      · rw [r2.nilInv.mp z, List.append_nil] at P
        cases b1' with
        | val rr => exact P.fin e rfl rr
      · exact P _ _ _ (Grow.new e hp) (RK.ownPlain rfl (.tup upd_same (RepL.same (Same.updNew (e.free hp)) _ _ (r1.app r2))))
    · exact P.elim
@[simp] def dSub : D → D → R D
  | .int i, .int j => .ok (.int (i - j))
  | _, _ => .stuck
/-- a product that the model reckons -/
def w600 : Nat := Classical.choose (oN_ex (2 ^ 2000))
theorem w600_val : w600 = 2 ^ 2000 := Classical.choose_spec (oN_ex (2 ^ 2000))
def wideOk (i j : Int) : Bool := decide (i.natAbs < w600) && decide (j.natAbs < w600)
def mulOk (i j : Int) : Bool := ((decide (-i64 < i) && decide (i < i64)) || (decide (-i64 < j) && decide (j < i64))) || wideOk i j
@[simp] def dMul : D → D → R D
  | .int i, .int j => if mulOk i j then .ok (.int (i * j)) else .stuck
  | .lst xs, .int k => if -i63 ≤ k ∧ k < i63 ∧ xs.length * k.toNat ≤ szL then .ok (.lst (List.replicate k.toNat xs).flatten) else .stuck
  | _, _ => .stuck
@[simp] def dFdiv : D → D → R D
  | .int i, .int j => if (j ≠ 0 ∧ j.natAbs < n30) ∨ (0 < j ∧ j.natAbs < w600) then .ok (.int (i.fdiv j)) else .stuck
  | _, _ => .stuck
@[simp] def dMod : D → D → R D
  | .int i, .int j => if j ≠ 0 then .ok (.int (i.fmod j)) else .stuck
  | _, _ => .stuck
def dPow : D → D → R D
  | .int i, .int j => if 0 ≤ j ∧ j ≤ iMil ∧ i.natAbs < n64 then .ok (.int (i ^ j.toNat)) else .stuck
  | _, _ => .stuck
@[simp] def dNeg : D → R D
  | .int i => .ok (.int (-i))
  | _ => .stuck
theorem opv_int2 {K : PySem.W.Frag} {f : D → D → R D} {C : Int → Int → Prop} {g : Int → Int → Int} (h : ∀ d1 d2, f d1 d2 ≠ .stuck → ∃ i j, d1 = .int i ∧ d2 = .int j ∧ C i j ∧ f d1 d2 = .ok (.int (g i j))) : OpV K (rI C fun i j => .int (g i j)) .val f := by
  intro cl Hs H d1 d2 v1 v2 Q W e b1 b2 P nx
  have ns : f d1 d2 ≠ .stuck := fun z => by rw [z] at P; exact P
  obtain ⟨i, j, rfl, rfl, c, q⟩ := h _ _ ns
  cases b1.intInv
  cases b2.intInv
  rw [q] at P
  exact ⟨i, j, rfl, rfl, c, P.finV e (.int _)⟩
theorem opv_int0 {K : PySem.W.Frag} {f : D → D → R D} {g : Int → Int → V} {gd : Int → Int → D} (h : ∀ d1 d2, f d1 d2 ≠ .stuck → ∃ i j, d1 = .int i ∧ d2 = .int j ∧ f d1 d2 = .ok (gd i j)) (hr : ∀ cl H i j, Rep cl H (gd i j) (g i j)) : OpV K (rI0 g) .val f := by
  intro cl Hs H d1 d2 v1 v2 Q W e b1 b2 P nx
  have ns : f d1 d2 ≠ .stuck := fun z => by rw [z] at P; exact P
  obtain ⟨i, j, rfl, rfl, q⟩ := h _ _ ns
  cases b1.intInv
  cases b2.intInv
  rw [q] at P
  exact ⟨i, j, rfl, rfl, P.finV e (hr _ _ _ _)⟩
theorem opv_sub {X : Cx} : OpV X.K (rI0 fun i j => .int (i - j)) .val dSub := opv_int0 (gd := fun i j => .int (i - j)) (fun d1 d2 ns => by
  cases d1 <;> cases d2 <;> first | exact (ns rfl).elim | exact ⟨_, _, rfl, rfl, rfl⟩) fun _ _ _ _ => .int _
theorem opv_fdiv {X : Cx} : OpV X.K (fun x y H Q => rI CDivN (fun i j => .int (i.fdiv j)) x y H Q ∨ rI CDivW (fun i j => .int (i / j)) x y H Q) .val dFdiv := by
  intro cl Hs H d1 d2 v1 v2 Q W e b1 b2 P nx
  cases d1 <;> cases d2 <;> first | exact P.elim | skip
  cases b1.intInv
  cases b2.intInv
  rename_i i j
  dsimp only [dFdiv] at P
  split at P
  · rename_i h
    by_cases c : j ≠ 0 ∧ j.natAbs < n30
    · exact .inl ⟨_, _, rfl, rfl, by have z := c; rw [n30_val] at z; exact z, P.finV e (.int _)⟩
    · have h2 := h.resolve_left c
      rw [Int.fdiv_eq_ediv_of_nonneg i (by omega)] at P
      exact .inr ⟨_, _, rfl, rfl, wide_div (b := 2000) h2.1 (by have z := h2.2; rw [w600_val] at z; exact z) (by decide) (by decide), P.finV e (.int _)⟩
  · exact P.elim
theorem opv_mod {X : Cx} : OpV X.K (rI (fun _ j => j ≠ 0) fun i j => .int (i.fmod j)) .val dMod := opv_int2 fun d1 d2 ns => by
  cases d1 <;> cases d2 <;> first | exact (ns rfl).elim | skip
  dsimp only [dMod] at ns ⊢
  split at ns
  · rename_i h
    exact ⟨_, _, rfl, rfl, h, by rw [if_pos h]⟩
  · exact (ns rfl).elim
theorem opv_pow {X : Cx} : OpV X.K (rI CPow fun i j => .int (i ^ j.toNat)) .val dPow := opv_int2 fun d1 d2 ns => by
  cases d1 <;> cases d2 <;> first | exact (ns rfl).elim | skip
  dsimp only [dPow] at ns ⊢
  split at ns
  · rename_i h
    exact ⟨_, _, rfl, rfl, by have z := h; rw [iMil_val, n64_val] at z; exact z, by rw [if_pos h]⟩
  · exact (ns rfl).elim
theorem mulOk_iff {i j : Int} (h : mulOk i j = true) : CMul i j ∨ CMulW i j := by
  unfold mulOk wideOk at h
  simp only [Bool.or_eq_true, Bool.and_eq_true, decide_eq_true_eq, i64_val, w600_val] at h
  rcases h with h | h
  · exact .inl h
  · exact .inr (wide_mul (a := 2000) (b := 2000) h.1 h.2 (by decide) (by decide) (by decide))
theorem RepL.rep {cl : Cl} {H : Hp} {ds : List D} {vs : List V} (h : RepL cl H ds vs) : ∀ k : Nat, RepL cl H (List.replicate k ds).flatten (List.replicate k vs).flatten
  | 0 => .nil
  | k + 1 => by
    rw [List.replicate_succ, List.replicate_succ, List.flatten_cons, List.flatten_cons]
    exact h.app (RepL.rep h k)
theorem opv_mul {X : Cx} : OpV X.K (fun x y H Q => (rI CMul (fun i j => .int (i * j)) x y H Q ∨ rI CMulW (fun i j => .int (i * j)) x y H Q) ∨ rRep x y H Q) (.own none) dMul := by
  intro cl Hs H d1 d2 v1 v2 Q W e b1 b2 P nx
  cases d1 <;> cases d2 <;> first | exact P.elim | skip
  · cases b1.intInv
    cases b2.intInv
    dsimp only [dMul] at P
    split at P
    · rename_i h
      rcases mulOk_iff h with h | h
      · exact .inl (.inl ⟨_, _, rfl, rfl, h, P.fin e rfl (.int _)⟩)
      · exact .inl (.inr ⟨_, _, rfl, rfl, h, P.fin e rfl (.int _)⟩)
    · exact P.elim
  · cases b2.intInv
    dsimp only [dMul] at P
    split at P
    · rename_i h
      obtain ⟨a, xs, rfl, h1, r1⟩ := b1.lstInv e
      refine .inr ⟨a, _, xs, rfl, rfl, h1, by have := h.1; rw [i63_val] at this; exact this, by have := h.2.1; rw [i63_val] at this; exact this, by rw [szL_eq, r1.length]; exact h.2.2, fun p hp => P.finL e hp (r1.rep _)⟩
    · exact P.elim
theorem nox_add : NoX dAdd := fun a b x h => by
  cases a <;> cases b <;> dsimp only [dAdd] at h <;> first | (split at h <;> cases h) | cases h
theorem nox_sub : NoX dSub := fun a b x h => by cases a <;> cases b <;> exact (nomatch h)
theorem nox_mul : NoX dMul := fun a b x h => by
  cases a <;> cases b <;> dsimp only [dMul] at h <;> first | (split at h <;> cases h) | cases h
theorem nox_fdiv : NoX dFdiv := fun a b x h => by
  cases a <;> cases b <;> dsimp only [dFdiv] at h <;> first | (split at h <;> cases h) | cases h
theorem nox_mod : NoX dMod := fun a b x h => by
  cases a <;> cases b <;> dsimp only [dMod] at h <;> first | (split at h <;> cases h) | cases h
theorem nox_pow : NoX dPow := fun a b x h => by
  cases a <;> cases b <;> dsimp only [dPow] at h <;> first | (split at h <;> cases h) | cases h
section
variable {X : Cx} {E : En} {ks : List Kd} {a b : Expr} {ga gb : Sl → R D} {pos : Pos}
theorem se_add (ha : SE X E ks .bor a ga) (hb : SE X E ks .bor b gb) : SE X E ks (.own none) (.BinOp a .Add b pos) (gBin dAdd ga gb) :=
  se_bin ((op_add.or op_add_str).or (op_cat.or op_catT)) opv_add nox_add ha hb
theorem se_sub (ha : SE X E ks .bor a ga) (hb : SE X E ks .bor b gb) : SE X E ks .val (.BinOp a .Sub b pos) (gBin dSub ga gb) := se_bin op_sub opv_sub nox_sub ha hb
theorem se_mul (ha : SE X E ks .bor a ga) (hb : SE X E ks .bor b gb) : SE X E ks (.own none) (.BinOp a .Mult b pos) (gBin dMul ga gb) := se_bin ((op_mul.or op_mulW).or op_rep) opv_mul nox_mul ha hb
theorem se_fdiv (ha : SE X E ks .bor a ga) (hb : SE X E ks .bor b gb) : SE X E ks .val (.BinOp a .FloorDiv b pos) (gBin dFdiv ga gb) := se_bin (op_fdivN.or op_fdivW) opv_fdiv nox_fdiv ha hb
theorem se_mod (ha : SE X E ks .bor a ga) (hb : SE X E ks .bor b gb) : SE X E ks .val (.BinOp a .Mod b pos) (gBin dMod ga gb) := se_bin op_modN opv_mod nox_mod ha hb
theorem se_pow (ha : SE X E ks .bor a ga) (hb : SE X E ks .bor b gb) : SE X E ks .val (.BinOp a .Pow b pos) (gBin dPow ga gb) := se_bin op_pow opv_pow nox_pow ha hb
@[simp] def gUn (f : D → R D) (ga : Sl → R D) : Sl → R D := fun r => do
  let a ← ga r
  f a
theorem se_neg (ha : SE X E ks .bor a ga) : SE X E ks .val (.UnaryOp .USub a pos) (gUn dNeg ga) := by
  refine ⟨fun Hs H r σ W Q tk S P => ?_⟩
  refine we_of (pe_un un_neg pe_we) ?_
  refine ha.run _ _ _ _ _ _ tk S (P.imp fun d v Hs1 H1 e1 g1 k1 P1 => ?_)
  cases d <;> first | exact P1.elim | skip
  cases k1.rb.intInv
  exact ⟨_, rfl, P1.finV g1.sub (.int _)⟩
end

mutual
def toPy : D → PyData
  | .non => .none
  | .bl b => .bool b
  | .int i => .int i
  | .str x => .str x
  | .lst xs => .list (toPys xs)
  | .tup xs => .tuple (toPys xs)
  | .dct _ => .dict []
  | .obj _ _ => .dict []
  | .scr _ => .dict []
def toPys : List D → List PyData
  | [] => []
  | d :: ds => toPy d :: toPys ds
end
section
variable {cl : Cl} {K : PySem.W.Frag} {H : Hp}
mutual
theorem Rep.dp : ∀ (d : D) (v : V), (toPy d).canLay0 = true → Rep cl H d v → Dp K H v (toPy d)
  | .non, _, _, h => by cases h; exact .non
  | .bl b, _, _, h => by cases h; exact .bl b
  | .int i, _, _, h => by cases h; exact .int i
  | .str x, _, _, h => by cases h; exact .str x
  | .lst ds, _, c, h => by
    cases h with
    | lst h1 h2 => exact .lst (SqL.of h1) (RepL.dp ds _ c h2)
  | .tup ds, _, c, h => by
    cases h with
    | tup h1 h2 => exact .tup (SqT.of h1) (RepL.dp ds _ c h2)
  | .dct ds, _, c, h => by cases c
  | .obj C ds, _, c, h => by cases c
  | .scr ns, _, c, h => by cases c
theorem RepL.dp : ∀ (ds : List D) (vs : List V), PyData.canLayAll0 (toPys ds) = true → RepL cl H ds vs → DpAll K H vs (toPys ds)
  | [], _, _, h => by cases h; exact .nil
  | d :: ds, _, c, h => by
    have c' : (toPy d).canLay0 = true ∧ PyData.canLayAll0 (toPys ds) = true := by
      have q : ((toPy d).canLay0 && PyData.canLayAll0 (toPys ds)) = true := c
      simpa using q
    cases h with
    | cons h1 h2 => exact .cons (Rep.dp d _ c'.1 h1) (RepL.dp ds _ c'.2 h2)
end
theorem RB.dp {Hs : Hp} {d : D} {v : V} (e : Same Hs H) (c : (toPy d).canLay0 = true) (h : RB cl Hs H d v) : Dp K H v (toPy d) := by
  cases h with
  | val r => exact Rep.dp _ _ c (Rep.same e _ _ r)
  | lst h1 h2 => exact .lst (SqL.of h1) (RepL.dp _ _ c (RepL.same e _ _ h2))
  | dct _ _ => cases c
  | obj _ _ _ => cases c
end
def dEqB (a b : D) : Bool := PyData.eqv (toPy a) (toPy b)
def shp (a : D) : Bool := SeqAt.shaped (toPy a)
def dEq : D → D → R D := fun a b => if shp a && shp b then .ok (.bl (dEqB a b)) else .stuck
def dNe : D → D → R D := fun a b => if shp a && shp b then .ok (.bl (!dEqB a b)) else .stuck
theorem nox_eq : NoX dEq := fun a b x h => by unfold dEq at h; split at h <;> cases h
theorem nox_ne : NoX dNe := fun a b x h => by unfold dNe at h; split at h <;> cases h
theorem opv_eq {X : Cx} : OpV X.K (rEqD X.K) .val dEq := by
  intro cl Hs H d1 d2 v1 v2 Q W e b1 b2 P nx
  unfold dEq at P
  split at P
  · rename_i h
    have h' : shp d1 = true ∧ shp d2 = true := by simpa using h
    exact ⟨toPy d1, toPy d2, b1.dp e (SeqAt.canLay_of_shaped h'.1), b2.dp e (SeqAt.canLay_of_shaped h'.2), h'.1, h'.2, P.finV e (.bl _)⟩
  · exact P.elim
theorem opv_ne {X : Cx} : OpV X.K (rNeD X.K) .val dNe := by
  intro cl Hs H d1 d2 v1 v2 Q W e b1 b2 P nx
  unfold dNe at P
  split at P
  · rename_i h
    have h' : shp d1 = true ∧ shp d2 = true := by simpa using h
    exact ⟨toPy d1, toPy d2, b1.dp e (SeqAt.canLay_of_shaped h'.1), b2.dp e (SeqAt.canLay_of_shaped h'.2), h'.1, h'.2, P.finV e (.bl _)⟩
  · exact P.elim
@[simp] def dLt : D → D → R D
  | .int i, .int j => .ok (.bl (decide (i < j)))
  | _, _ => .stuck
@[simp] def dLe : D → D → R D
  | .int i, .int j => .ok (.bl (decide (i ≤ j)))
  | _, _ => .stuck
@[simp] def dGt : D → D → R D
  | .int i, .int j => .ok (.bl (decide (j < i)))
  | _, _ => .stuck
theorem nox_lt : NoX dLt := fun a b x h => by cases a <;> cases b <;> exact (nomatch h)
theorem nox_le : NoX dLe := fun a b x h => by cases a <;> cases b <;> exact (nomatch h)
theorem nox_gt : NoX dGt := fun a b x h => by cases a <;> cases b <;> exact (nomatch h)
theorem opv_lt {X : Cx} : OpV X.K (rI0 fun i j => .bl (decide (i < j))) .val dLt := opv_int0 (gd := fun i j => .bl (decide (i < j))) (fun d1 d2 ns => by
  cases d1 <;> cases d2 <;> first | exact (ns rfl).elim | exact ⟨_, _, rfl, rfl, rfl⟩) fun _ _ _ _ => .bl _
theorem opv_le {X : Cx} : OpV X.K (rI0 fun i j => .bl (decide (i ≤ j))) .val dLe := opv_int0 (gd := fun i j => .bl (decide (i ≤ j))) (fun d1 d2 ns => by
  cases d1 <;> cases d2 <;> first | exact (ns rfl).elim | exact ⟨_, _, rfl, rfl, rfl⟩) fun _ _ _ _ => .bl _
theorem opv_gt {X : Cx} : OpV X.K (rI0 fun i j => .bl (decide (j < i))) .val dGt := opv_int0 (gd := fun i j => .bl (decide (j < i))) (fun d1 d2 ns => by
  cases d1 <;> cases d2 <;> first | exact (ns rfl).elim | exact ⟨_, _, rfl, rfl, rfl⟩) fun _ _ _ _ => .bl _
section
variable {X : Cx} {E : En} {ks : List Kd} {a b : Expr} {ga gb : Sl → R D} {pos : Pos}
end
end VL
end

noncomputable section
namespace VL
open PySem PySem.Spec PyProof.Rows L2
variable {md : Md}

def PostT (cl : Cl) (Hs H : Hp) (Q : Bool → Hp → Prop) (W : WX0) : R Bool → Prop
  | .stuck => False
  | .exc x => ∀ c dd Hs' H', Grow Hs H Hs' H' → XRep cl Hs' H' x c dd → W c dd H'
  | .ok b => ∀ Hs' H', Grow Hs H Hs' H' → Q b H'
theorem PostT.grow {cl : Cl} {Hs H Hs' H' : Hp} {Q : Bool → Hp → Prop} {W : WX0} {r : R Bool} (P : PostT cl Hs H Q W r) (g : Grow Hs H Hs' H') : PostT cl Hs' H' Q W r := by
  cases r with
  | stuck => exact P
  | exc x => exact fun c dd Hs2 H2 g2 x2 => P c dd Hs2 H2 (g.trans g2) x2
  | ok d => exact fun Hs2 H2 g2 => P Hs2 H2 (g.trans g2)
structure ST [md : Md] (X : Cx) (E : En) (ks : List Kd) (e : Expr) (g : Sl → R Bool) : Prop where
  run : ∀ (Hs H : Hp) (r : Sl) (σ : L2.St) (W : WX) (Q : Bool → Hp → Prop), Takes X W → StRel E Hs H ks r σ → PostT E.cl Hs H Q (fun c dd H' => W c dd σ H') (g r) → WTx X e σ H Q
def WWx (X : Cx) (e : Expr) : TT := fun σ H Q => ∀ (whole : Sem Value) (pins : List (Addr × Obj)) (s : Shared), Inv X pins σ H s → wpAny (model X.prog X.w) X.A (isTrue e X.env whole) (TP X pins σ Q) X.xe s
theorem pw_ww {X : Cx} {e : Expr} : PW X e (WWx X e) := ⟨fun whole pins s _ _ _ I h => h whole pins s I⟩
theorem ww_of {X : Cx} {e : Expr} {t : TT} {σ : L2.St} {H : Hp} {Q : Bool → Hp → Prop} (p : PW X e t) (h : t σ H Q) : WWx X e σ H Q := fun whole pins s I => p.run whole pins s σ H Q I h
structure SW [md : Md] (X : Cx) (E : En) (ks : List Kd) (e : Expr) (g : Sl → R Bool) : Prop where
  run : ∀ (Hs H : Hp) (r : Sl) (σ : L2.St) (W : WX) (Q : Bool → Hp → Prop), Takes X W → StRel E Hs H ks r σ → PostT E.cl Hs H Q (fun c dd H' => W c dd σ H') (g r) → WWx X e σ H Q
/-- a bool -/
@[simp] def asB : D → R Bool
  | .bl b => .ok b
  | _ => .stuck
@[simp] def gTest (g : Sl → R D) : Sl → R Bool := fun r => do
  let d ← g r
  asB d
section
variable {X : Cx} {E : En} {ks : List Kd} {a b c e : Expr} {ga gb g : Sl → R D} {ta tb tc : Sl → R Bool} {rest : List Expr} {pos : Pos}
theorem Post.ofT {cl : Cl} {k : Kd} {Hs H : Hp} {Q : Bool → Hp → Prop} {W : WX0} {r : R D} {f : D → R Bool} (P : PostT cl Hs H Q W (r >>= f)) {Q1 : VK}
    (h : ∀ d v Hs' H', r = .ok d → Grow Hs H Hs' H' → RK cl k H Hs' H' d v → PostT cl Hs' H' Q W (f d) → Q1 v H') : Post cl k Hs H Q1 W r := by
  cases r with
  | stuck => exact P
  | exc x => exact P
  | ok d => exact fun v Hs' H' g rk => h d v Hs' H' rfl g rk (PostT.grow (r := f d) P g)
theorem PostT.imp {cl : Cl} {Hs H : Hp} {Q Q1 : Bool → Hp → Prop} {W : WX0} {r : R Bool} {f : Bool → R Bool} (P : PostT cl Hs H Q W (r >>= f))
    (h : ∀ b Hs' H', r = .ok b → Grow Hs H Hs' H' → PostT cl Hs' H' Q W (f b) → Q1 b H') : PostT cl Hs H Q1 W r := by
  cases r with
  | stuck => exact P
  | exc x => exact P
  | ok d => exact fun Hs' H' g => h d Hs' H' rfl g (PostT.grow (r := f d) P g)
theorem PostT.to {cl : Cl} {k : Kd} {Hs H : Hp} {Q1 : Bool → Hp → Prop} {Q : VK} {W : WX0} {r : R Bool} {f : Bool → R D} (P : Post cl k Hs H Q W (r >>= f))
    (h : ∀ b Hs' H', r = .ok b → Grow Hs H Hs' H' → Post cl k Hs' H' Q W (f b) → Q1 b H') : PostT cl Hs H Q1 W r := by
  cases r with
  | stuck => exact P
  | exc x => exact P
  | ok d => exact fun Hs' H' g => h d Hs' H' rfl g (Post.grow (r := f d) P g)
/-- an expression that gives a bool, as a test -/
theorem st_val (h : SE X E ks .bor e g) (he : ∀ whole, isTrue e X.env whole = (do let v ← whole; standAt e.pos; holding [v] (truthy v)) := by intro _; rfl) : ST X E ks e (gTest g) := by
  refine ⟨fun Hs H r σ W Q tk S P => ?_⟩
  refine wt_of (pt_val pe_we he) ?_
  refine h.run _ _ _ _ _ _ tk S (Post.ofT P fun d v Hs' H' e1 g1 k1 P1 => ?_)
  cases d <;> first | exact P1.elim | skip
  cases k1.rb.blInv
  exact ⟨_, rfl, P1 Hs' H' (Grow.refl g1.sub)⟩
/-- a comparison as a test -/
theorem st_cmp {op : CmpOp} {rr : R2} {f : D → D → R D} (ho : OpR X (compareOp op) rr) (hv : OpV X.K rr .val f) (nx : NoX f) (ha : SE X E ks .bor a ga) (hb : SE X E ks .bor b gb) (hm : behindInMarks op b = false := by rfl) : ST X E ks (.Compare a [op] [b] pos) (gTest (gBin f ga gb)) := by
  refine ⟨fun Hs H r σ W Q tk S P => ?_⟩
  refine wt_of (pt_cmpR ho pe_we pe_we hm) ?_
  refine bin_read hv nx ha hb tk S (Post.ofT P fun d v Hs' H' e1 g1 k1 P1 => ?_)
  cases d <;> first | exact P1.elim | skip
  have rp := k1.rep
  cases rp
  exact ⟨_, rfl, P1 Hs' H' (Grow.refl g1.sub)⟩
theorem st_of (h : SW X E ks e ta) : ST X E ks e ta := ⟨fun Hs H r σ W Q tk S P => wt_of pw_ww.pt (h.run _ _ _ _ _ _ tk S P)⟩
@[simp] def gAnd (ta tb : Sl → R Bool) : Sl → R Bool := fun r => do
  let b ← ta r
  if b then tb r else .ok false
@[simp] def gOr (ta tb : Sl → R Bool) : Sl → R Bool := fun r => do
  let b ← ta r
  if b then .ok true else tb r
@[simp] def gNot (ta : Sl → R Bool) : Sl → R Bool := fun r => do
  let b ← ta r
  .ok (!b)
theorem sw_and1 (ha : ST X E ks a ta) : SW X E ks (.BoolOp .And [a] pos) ta := ⟨fun Hs H r σ W Q tk S P => ww_of (pw_and1 pt_wt) (ha.run _ _ _ _ _ _ tk S P)⟩
theorem sw_or1 (ha : ST X E ks a ta) : SW X E ks (.BoolOp .Or [a] pos) ta := ⟨fun Hs H r σ W Q tk S P => ww_of (pw_or1 pt_wt) (ha.run _ _ _ _ _ _ tk S P)⟩
theorem sw_and (ha : ST X E ks a ta) (hb : SW X E ks (.BoolOp .And (b :: rest) pos) tb) : SW X E ks (.BoolOp .And (a :: b :: rest) pos) (gAnd ta tb) := by
  refine ⟨fun Hs H r σ W Q tk S P => ?_⟩
  refine ww_of (pw_and pt_wt pw_ww) ?_
  refine ha.run _ _ _ _ _ _ tk S (PostT.imp P fun x Hs' H' e1 g1 P1 => ?_)
  cases x with
  | true => exact hb.run _ _ _ _ _ _ tk (S.grow g1) P1
  | false => exact P1 Hs' H' (Grow.refl g1.sub)
theorem sw_or (ha : ST X E ks a ta) (hb : SW X E ks (.BoolOp .Or (b :: rest) pos) tb) : SW X E ks (.BoolOp .Or (a :: b :: rest) pos) (gOr ta tb) := by
  refine ⟨fun Hs H r σ W Q tk S P => ?_⟩
  refine ww_of (pw_or pt_wt pw_ww) ?_
  refine ha.run _ _ _ _ _ _ tk S (PostT.imp P fun x Hs' H' e1 g1 P1 => ?_)
  cases x with
  | false => exact hb.run _ _ _ _ _ _ tk (S.grow g1) P1
  | true => exact P1 Hs' H' (Grow.refl g1.sub)
theorem st_not (ha : ST X E ks a ta) : ST X E ks (.UnaryOp .Not a pos) (gNot ta) := by
  refine ⟨fun Hs H r σ W Q tk S P => ?_⟩
  refine wt_of (pt_not pt_wt) ?_
  exact ha.run _ _ _ _ _ _ tk S (PostT.imp P fun x Hs' H' e1 g1 P1 => P1 Hs' H' (Grow.refl g1.sub))
@[simp] def vAnd (ga gb : Sl → R D) : Sl → R D := fun r => do
  let d ← ga r
  let b ← asB d
  if b then gb r else .ok (.bl false)
theorem se_one {op : PySem.BoolOp} (ha : SE X E ks .val a ga) : SE X E ks .val (.BoolOp op [a] pos) ga := ⟨fun Hs H r σ W Q tk S P => we_of (pe_one pe_we) (ha.run _ _ _ _ _ _ tk S P)⟩
theorem se_and (ha : SE X E ks .val a ga) (hb : SE X E ks .val (.BoolOp .And (b :: rest) pos) gb) : SE X E ks .val (.BoolOp .And (a :: b :: rest) pos) (vAnd ga gb) := by
  refine ⟨fun Hs H r σ W Q tk S P => ?_⟩
  refine we_of (pe_and pe_we pe_we) ?_
  refine ha.run _ _ _ _ _ _ tk S (Post.imp (F := fun d => asB d >>= fun b => if b then gb r else .ok (.bl false)) P fun d v Hs' H' e1 g1 k1 P1 => ?_)
  cases d <;> first | exact P1.elim | skip
  have rp := k1.rep
  cases rp
  rename_i q
  refine ⟨q, rfl, ?_⟩
  cases q with
  | true => exact iteT (hb.run _ _ _ _ _ _ tk (S.grow g1) P1)
  | false => exact iteF (Post.finV P1 g1.sub (.bl false))
@[simp] def gIf (tc : Sl → R Bool) (ga gb : Sl → R D) : Sl → R D := fun r => do
  let b ← tc r
  if b then ga r else gb r
theorem se_if {k : Kd} (hc : ST X E ks c tc) (ha : SE X E ks k a ga) (hb : SE X E ks k b gb) : SE X E ks k (.IfExp c a b pos) (gIf tc ga gb) := by
  refine ⟨fun Hs H r σ W Q tk S P => ?_⟩
  refine we_of (pe_ifExp pt_wt pe_we pe_we) ?_
  refine hc.run _ _ _ _ _ _ tk S (PostT.to P fun x Hs' H' e1 g1 P1 => ?_)
  have fin : ∀ {k : Kd}, Post E.cl k Hs' H' Q (fun c dd H' => W c dd σ H') (if x then ga r else gb r) → Post E.cl k Hs' H' Q (fun c dd H' => W c dd σ H') (if x then ga r else gb r) := fun z => z
  cases x with
  | true => exact iteT (ha.run _ _ _ _ _ _ tk (S.grow g1) P1)
  | false => exact iteF (hb.run _ _ _ _ _ _ tk (S.grow g1) P1)
end

@[simp] def dIsN : D → R D
  | .non => .ok (.bl true)
  | _ => .ok (.bl false)
@[simp] def dNotN : D → R D
  | .non => .ok (.bl false)
  | _ => .ok (.bl true)
section
variable {X : Cx} {E : En} {ks : List Kd} {a : Expr} {ga : Sl → R D} {pos pos' : Pos} {j : Nat}
theorem RB.isN {cl : Cl} {Hs H : Hp} {d : D} {v : V} (h : RB cl Hs H d v) : decide (v = V.non) = (match d with | .non => true | _ => false) := by
  cases h with
  | val r => cases r <;> rfl
  | lst _ _ => rfl
  | dct _ _ => rfl
  | obj _ _ _ => rfl
theorem se_isN (ha : SE X E ks .bor a ga) : SE X E ks .val (.Compare a [.Is] [.Constant .none j pos'] pos) (gUn dIsN ga) := by
  refine ⟨fun Hs H r σ W Q tk S P => ?_⟩
  refine we_of (pe_cmp (pc_isN pe_we) rfl) ?_
  refine ha.run _ _ _ _ _ _ tk S (P.imp fun d v Hs1 H1 e1 g1 k1 P1 => ?_)
  show Q (V.bl (decide (v = .non))) H1
  rw [k1.rb.isN]
  cases d <;> exact P1.finV g1.sub (.bl _)
theorem st_isN (ha : SE X E ks .bor a ga) : ST X E ks (.Compare a [.Is] [.Constant .none j pos'] pos) (gTest (gUn dIsN ga)) := by
  refine ⟨fun Hs H r σ W Q tk S P => ?_⟩
  refine wt_of (pt_cmp (pc_isN pe_we) rfl) ?_
  have P' : PostT E.cl Hs H Q (fun c dd H' => W c dd σ H') (ga r >>= fun d => dIsN d >>= asB) := by
    unfold gTest gUn at P
    cases q : ga r <;> rw [q] at P <;> exact P
  refine ha.run _ _ _ _ _ _ tk S (Post.ofT P' fun d v Hs1 H1 e1 g1 k1 P1 => ?_)
  refine ⟨_, rfl, ?_⟩
  rw [k1.rb.isN]
  cases d <;> exact P1 Hs1 H1 (Grow.refl g1.sub)
theorem st_notN (ha : SE X E ks .bor a ga) : ST X E ks (.Compare a [.IsNot] [.Constant .none j pos'] pos) (gTest (gUn dNotN ga)) := by
  refine ⟨fun Hs H r σ W Q tk S P => ?_⟩
  refine wt_of (pt_cmp (pc_notN pe_we) rfl) ?_
  have P' : PostT E.cl Hs H Q (fun c dd H' => W c dd σ H') (ga r >>= fun d => dNotN d >>= asB) := by
    unfold gTest gUn at P
    cases q : ga r <;> rw [q] at P <;> exact P
  refine ha.run _ _ _ _ _ _ tk S (Post.ofT P' fun d v Hs1 H1 e1 g1 k1 P1 => ?_)
  refine ⟨_, rfl, ?_⟩
  rw [k1.rb.isN]
  cases d <;> exact P1 Hs1 H1 (Grow.refl g1.sub)
end

theorem atI_rep {cl : Cl} {H : Hp} {ds : List D} {vs : List V} {i : Int} {d : D} (r : RepL cl H ds vs) (h : atI ds i = some d) : ∃ v, atI vs i = some v ∧ Rep cl H d v := by
  unfold atI at h ⊢
  rw [r.length]
  cases q : ixN ds.length i with
  | none => rw [q] at h; cases h
  | some j =>
    rw [q] at h
    have h' : ds[j]? = some d := h
    obtain ⟨v, e, rp⟩ := r.get h'
    exact ⟨v, e, rp⟩
@[simp] def dIdx : D → D → R D
  | .lst ds, .int i => match atI ds i with
    | some d => .ok d
    | none => .stuck
  | .tup ds, .int i => match atI ds i with
    | some d => .ok d
    | none => .stuck
  | .str z, .int i => if z.length ≤ szL then (match atI z.cps.toList i with
    | some c => .ok (.str ⟨#[c]⟩)
    | none => .stuck) else .stuck
  | _, _ => .stuck
theorem nox_idx : NoX dIdx := fun a b x h => by
  cases a <;> cases b <;> dsimp only [dIdx] at h <;> first | (split at h <;> first | cases h | (split at h <;> cases h)) | cases h
theorem opv_idx {X : Cx} : OpV X.K (rIx X.K) .val dIdx := by
  intro cl Hs H d1 d2 v1 v2 Q W e b1 b2 P nx
  cases d1 <;> cases d2 <;> first | exact P.elim | skip
  · cases b1.strInv
    cases b2.intInv
    dsimp only [dIdx] at P
    split at P
    · rename_i h
      split at P
      · rename_i c q
        exact .inr (.inr ⟨_, _, c, rfl, rfl, by rw [szL_eq]; exact h, q, P.finV e (.str _)⟩)
      · exact P.elim
    · exact P.elim
  · cases b2.intInv
    dsimp only [dIdx] at P
    split at P
    · rename_i d q
      obtain ⟨l, xs, rfl, h1, r1⟩ := b1.lstInv e
      obtain ⟨v, e2, rp⟩ := atI_rep r1 q
      exact .inl ⟨l, xs, _, v, rfl, rfl, SqL.of h1, e2, P.finV e rp⟩
    · exact P.elim
  · cases b2.intInv
    dsimp only [dIdx] at P
    split at P
    · rename_i d q
      obtain ⟨l, xs, rfl, h1, r1⟩ := b1.tupInv e
      obtain ⟨v, e2, rp⟩ := atI_rep r1 q
      exact .inr (.inl ⟨l, xs, _, v, rfl, rfl, SqT.of h1, e2, P.finV e rp⟩)
    · exact P.elim
theorem se_ix {X : Cx} {E : En} {ks : List Kd} {a b : Expr} {ga gb : Sl → R D} {pos : Pos} (ha : SE X E ks .bor a ga) (hb : SE X E ks .bor b gb) (hs : PlainIx b := by exact fun _ _ => rfl) : SE X E ks .val (.Subscript a b pos) (gBin dIdx ga gb) :=
  ⟨fun Hs H r σ W Q tk S P => we_of (pe_ix ix_seq pe_we pe_we hs) (bin_read opv_idx nox_idx ha hb tk S P)⟩

def cutL {α : Type} (xs : List α) (lo hi : Option Int) : List α := (xs.drop (HT.sIx xs.length 0 lo)).take (HT.sIx xs.length xs.length hi - HT.sIx xs.length 0 lo)
theorem cut_rep {cl : Cl} {H : Hp} {ds : List D} {vs : List V} {lo hi : Option Int} (r : RepL cl H ds vs) : RepL cl H (cutL ds lo hi) (cutV vs lo hi) := by
  unfold cutL cutV
  rw [r.length]
  exact (r.drop _).take _
/-- an end of a slice -/
def PostO (cl : Cl) (Hs H : Hp) (Q : Option Int → Hp → Prop) (W : WX0) : R (Option Int) → Prop
  | .stuck => False
  | .exc x => ∀ c dd Hs' H', Grow Hs H Hs' H' → XRep cl Hs' H' x c dd → W c dd H'
  | .ok b => ∀ Hs' H', Grow Hs H Hs' H' → Q b H'
theorem PostO.grow {cl : Cl} {Hs H Hs' H' : Hp} {Q : Option Int → Hp → Prop} {W : WX0} {r : R (Option Int)} (P : PostO cl Hs H Q W r) (g : Grow Hs H Hs' H') : PostO cl Hs' H' Q W r := by
  cases r with
  | stuck => exact P
  | exc x => exact fun c dd Hs2 H2 g2 x2 => P c dd Hs2 H2 (g.trans g2) x2
  | ok d => exact fun Hs2 H2 g2 => P Hs2 H2 (g.trans g2)
def WOx (X : Cx) (e : Option Expr) : TO := fun σ H Q => ∃ t, PO X e t ∧ t σ H Q
theorem po_wo {X : Cx} {e : Option Expr} : PO X e (WOx X e) := ⟨fun pins s σ H Q I ⟨t, p, h⟩ => p.run pins s σ H Q I h⟩
structure SO [md : Md] (X : Cx) (E : En) (ks : List Kd) (e : Option Expr) (g : Sl → R (Option Int)) : Prop where
  run : ∀ (Hs H : Hp) (r : Sl) (σ : L2.St) (W : WX) (Q : Option Int → Hp → Prop), Takes X W → StRel E Hs H ks r σ → PostO E.cl Hs H Q (fun c dd H' => W c dd σ H') (g r) → WOx X e σ H Q
@[simp] def gNoPart : Sl → R (Option Int) := fun _ => .ok none
@[simp] def dPart : D → R (Option Int)
  | .int i => .ok (some i)
  | _ => .stuck
@[simp] def gPart (g : Sl → R D) : Sl → R (Option Int) := fun r => do
  let d ← g r
  dPart d
section
variable {X : Cx} {E : En} {ks : List Kd} {a e : Expr} {ga g : Sl → R D} {pos p2 : Pos} {lo hi : Option Expr} {gl gh : Sl → R (Option Int)}
theorem so_none : SO X E ks none gNoPart := ⟨fun Hs H r σ W Q tk S P => ⟨_, po_none, P Hs H (Grow.refl S.sub)⟩⟩
theorem so_some (h : SE X E ks .bor e g) : SO X E ks (some e) (gPart g) := by
  refine ⟨fun Hs H r σ W Q tk S P => ?_⟩
  refine ⟨_, po_some pe_we, ?_⟩
  refine h.run _ _ _ _ _ _ tk S ?_
  unfold gPart at P
  cases q : g r with
  | stuck => rw [q] at P; exact P
  | exc x => rw [q] at P; exact P
  | ok d =>
    rw [q] at P
    intro v Hs' H' g1 k1
    cases d <;> first | exact False.elim P | skip
    cases k1.rb.intInv
    exact ⟨_, rfl, P Hs' H' g1⟩
@[simp] def dSlL (d : D) (lo hi : Option Int) : R D := match d with
  | .lst ds => .ok (.lst (cutL ds lo hi))
  | .tup ds => .ok (.tup (cutL ds lo hi))
  | .str x => if x.length ≤ szL then .ok (.str (cutS x lo hi)) else .stuck
  | _ => .stuck
theorem cutL_whole {α : Type} {xs : List α} {lo hi : Option Int} (h : HT.sIx xs.length 0 lo = 0 ∧ HT.sIx xs.length xs.length hi = xs.length) : cutL xs lo hi = xs := by
  unfold cutL
  rw [h.1, h.2, List.drop_zero, Nat.sub_zero, List.take_length]
@[simp] def gSl (ga : Sl → R D) (gl gh : Sl → R (Option Int)) : Sl → R D := fun r => do
  let d ← ga r
  let l ← gl r
  let h ← gh r
  dSlL d l h
theorem se_slL (ha : SE X E ks .bor a ga) (hl : SO X E ks lo gl) (hh : SO X E ks hi gh) : SE X E ks (.own none) (.Subscript a (.Slice lo hi none p2) pos) (gSl ga gl gh) := by
  refine ⟨fun Hs H r σ W Q tk S P => ?_⟩
  refine we_of (pe_slice ((sl_list.or sl_tupA).or sl_str) pe_we po_wo po_wo) ?_
  refine ha.run _ _ _ _ _ _ tk S (Post.imp (F := fun d => gl r >>= fun l => gh r >>= fun h => dSlL d l h) P fun d v Hs1 H1 e1 g1 k1 P1 => ?_)
  refine hl.run _ _ _ _ _ _ tk (S.grow g1) ?_
  cases q : gl r with
  | stuck => rw [q] at P1; exact P1
  | exc x => rw [q] at P1; exact P1
  | ok l =>
    rw [q] at P1
    intro Hs2 H2 g2
    refine hh.run _ _ _ _ _ _ tk ((S.grow g1).grow g2) ?_
    have P2 : Post E.cl (.own none) Hs2 H2 Q (fun c dd H' => W c dd σ H') (gh r >>= fun h => dSlL d l h) := Post.grow (r := gh r >>= fun h => dSlL d l h) P1 g2
    cases q2 : gh r with
    | stuck => rw [q2] at P2; exact P2
    | exc x => rw [q2] at P2; exact P2
    | ok h =>
      rw [q2] at P2
      intro Hs3 H3 g3
      have P3 : Post E.cl (.own none) Hs3 H3 Q (fun c dd H' => W c dd σ H') (dSlL d l h) := Post.grow (r := dSlL d l h) P2 g3
      cases d <;> first | exact P3.elim | skip
      · cases ((k1.rb.grow g2).grow g3).strInv
        dsimp only [dSlL] at P3
        split at P3
        · rename_i hz
          exact .inr ⟨_, rfl, by rw [szL_eq]; exact hz, P3.fin g3.sub rfl (.str _)⟩
        · exact P3.elim
      · obtain ⟨p, xs, rfl, h1, r1⟩ := ((k1.rb.grow g2).grow g3).lstInv g3.sub
        exact .inl (.inl ⟨p, xs, rfl, SqL.of h1, fun q hq => P3.finL g3.sub hq (cut_rep r1)⟩)
      · have b1 := (k1.rb.grow g2).grow g3
        have b1' := b1
        obtain ⟨p, xs, rfl, h1, r1⟩ := b1.tupInv g3.sub
        refine .inl (.inr ⟨p, xs, rfl, SqT.of h1, fun z => ?_, fun _ q hq => ?_⟩)
        · rw [r1.length] at z
          dsimp only [dSlL] at P3
          rw [cutL_whole z] at P3
          cases b1' with
          | val rr => exact P3.fin g3.sub rfl rr
        · exact P3 _ _ _ (Grow.new g3.sub hq) (RK.ownPlain rfl (.tup upd_same (RepL.same (Same.updNew (g3.sub.free hq)) _ _ (cut_rep r1))))
end
end VL
end

noncomputable section
namespace VL
open PySem PySem.Spec PyProof.Rows L2
variable {md : Md}

/-- how an argument lies: stable, or borrowed -/
inductive RAs (cl : Cl) (Hs H : Hp) : List Bool → List D → List V → Prop
  | nil : RAs cl Hs H [] [] []
  | val {d : D} {v : V} {bs : List Bool} {ds : List D} {vs : List V} : Rep cl Hs d v → RAs cl Hs H bs ds vs → RAs cl Hs H (true :: bs) (d :: ds) (v :: vs)
  | bor {d : D} {v : V} {bs : List Bool} {ds : List D} {vs : List V} : RB cl Hs H d v → RAs cl Hs H bs ds vs → RAs cl Hs H (false :: bs) (d :: ds) (v :: vs)
theorem RAs.grow {cl : Cl} {Hs H Hs' H' : Hp} (g : Grow Hs H Hs' H') : ∀ {bs : List Bool} {ds : List D} {vs : List V}, RAs cl Hs H bs ds vs → RAs cl Hs' H' bs ds vs
  | _, _, _, .nil => .nil
  | _, _, _, .val r t => .val (Rep.same g.s _ _ r) (RAs.grow g t)
  | _, _, _, .bor r t => .bor (r.grow g) (RAs.grow g t)
theorem RAs.len {cl : Cl} {Hs H : Hp} : ∀ {bs : List Bool} {ds : List D} {vs : List V}, RAs cl Hs H bs ds vs → vs.length = bs.length ∧ ds.length = bs.length
  | _, _, _, .nil => ⟨rfl, rfl⟩
  | _, _, _, .val r t => by simp [RAs.len t]
  | _, _, _, .bor r t => by simp [RAs.len t]
theorem RAs.reps {cl : Cl} {Hs H : Hp} : ∀ {n : Nat} {ds : List D} {vs : List V}, RAs cl Hs H (List.replicate n true) ds vs → RepL cl Hs ds vs
  | 0, _, _, h => by cases h; exact .nil
  | n + 1, _, _, h => by
    rw [List.replicate_succ] at h
    cases h with
    | val r t => exact .cons r (RAs.reps t)
def PostA (cl : Cl) (bs : List Bool) (Hs H : Hp) (Q : List V → Hp → Prop) (W : WX0) : R (List D) → Prop
  | .stuck => False
  | .exc x => ∀ c dd Hs' H', Grow Hs H Hs' H' → XRep cl Hs' H' x c dd → W c dd H'
  | .ok ds => ∀ vs Hs' H', Grow Hs H Hs' H' → RAs cl Hs' H' bs ds vs → Q vs H'
theorem PostA.grow {cl : Cl} {bs : List Bool} {Hs H Hs' H' : Hp} {Q : List V → Hp → Prop} {W : WX0} {r : R (List D)} (P : PostA cl bs Hs H Q W r) (g : Grow Hs H Hs' H') : PostA cl bs Hs' H' Q W r := by
  cases r with
  | stuck => exact P
  | exc x => exact fun c dd Hs2 H2 g2 x2 => P c dd Hs2 H2 (g.trans g2) x2
  | ok d => exact fun vs Hs2 H2 g2 => P vs Hs2 H2 (g.trans g2)
structure SA [md : Md] (X : Cx) (E : En) (ks : List Kd) (bs : List Bool) (es : List Expr) (g : Sl → R (List D)) : Prop where
  run : ∀ (Hs H : Hp) (r : Sl) (σ : L2.St) (W : WX) (Q : List V → Hp → Prop), Takes X W → StRel E Hs H ks r σ → PostA E.cl bs Hs H Q (fun c dd H' => W c dd σ H') (g r) → WAx X es σ H Q
@[simp] def gNil : Sl → R (List D) := fun _ => .ok []
@[simp] def gCons (g : Sl → R D) (t : Sl → R (List D)) : Sl → R (List D) := fun r => do
  let d ← g r
  let ds ← t r
  .ok (d :: ds)
/-- from an argument list to what is made of it -/
theorem PostA.of {cl : Cl} {k : Kd} {bs : List Bool} {Hs H : Hp} {Q : VK} {W : WX0} {r : R (List D)} {f : List D → R D} {Q1 : List V → Hp → Prop} (P : Post cl k Hs H Q W (r >>= f))
    (h : ∀ ds vs Hs' H', r = .ok ds → Grow Hs H Hs' H' → RAs cl Hs' H' bs ds vs → Post cl k Hs' H' Q W (f ds) → Q1 vs H') : PostA cl bs Hs H Q1 W r := by
  cases r with
  | stuck => exact P
  | exc x => exact P
  | ok ds => exact fun vs Hs' H' g a => h ds vs Hs' H' rfl g a (Post.grow (r := f ds) P g)
section
variable {X : Cx} {E : En} {ks : List Kd} {e : Expr} {es : List Expr} {g : Sl → R D} {t : Sl → R (List D)} {bs : List Bool} {pos : Pos}
theorem sa_nil : SA X E ks [] [] gNil := ⟨fun Hs H r σ W Q tk S P => wa_of pa_nil (P [] Hs H (Grow.refl S.sub) .nil)⟩
theorem sa_cons_core {k : Kd} {b : Bool} (he : SE X E ks k e g) (ht : SA X E ks bs es t) (hs : starEach (e :: es) X.env = (false, eval e X.env) :: starEach es X.env)
    (mk : ∀ {cl Hs H H0 d v ds vs}, RK cl k H0 Hs H d v → RAs cl Hs H bs ds vs → RAs cl Hs H (b :: bs) (d :: ds) (v :: vs))
    (gr : ∀ {cl : Cl} {Hs H Hs' H' H0 : Hp} {d : D} {v : V}, RK cl k H0 Hs H d v → Grow Hs H Hs' H' → RK cl k H0 Hs' H' d v) : SA X E ks (b :: bs) (e :: es) (gCons g t) := by
  refine ⟨fun Hs H r σ W Q tk S P => ?_⟩
  refine wa_of (pa_cons pe_we pa_wa hs) ?_
  refine he.run _ _ _ _ _ _ tk S ?_
  unfold gCons at P
  cases q : g r with
  | stuck => rw [q] at P; exact P
  | exc x => rw [q] at P; exact P
  | ok d =>
    rw [q] at P
    intro v Hs1 H1 g1 k1
    refine ht.run _ _ _ _ _ _ tk (S.grow g1) ?_
    have P1 := PostA.grow (r := t r >>= fun ds => R.ok (d :: ds)) P g1
    cases q2 : t r with
    | stuck => rw [q2] at P1; exact P1
    | exc x => rw [q2] at P1; exact P1
    | ok ds =>
      rw [q2] at P1
      exact fun vs Hs2 H2 g2 a2 => P1 _ Hs2 H2 g2 (mk (gr k1 g2) a2)
theorem sa_v (he : SE X E ks .val e g) (ht : SA X E ks bs es t) (hs : starEach (e :: es) X.env = (false, eval e X.env) :: starEach es X.env := by rfl) : SA X E ks (true :: bs) (e :: es) (gCons g t) :=
  sa_cons_core he ht hs (fun k a => .val k.rep a) fun k g => RK.val (Rep.same g.s _ _ k.rep)
theorem sa_b (he : SE X E ks .bor e g) (ht : SA X E ks bs es t) (hs : starEach (e :: es) X.env = (false, eval e X.env) :: starEach es X.env := by rfl) : SA X E ks (false :: bs) (e :: es) (gCons g t) :=
  sa_cons_core he ht hs (fun k a => .bor k.rb a) fun k g => (k.rb.grow g).rk

@[simp] def gLst (t : Sl → R (List D)) : Sl → R D := fun r => do
  let ds ← t r
  if ds.length ≤ szL then .ok (.lst ds) else .stuck
@[simp] def gTup (t : Sl → R (List D)) : Sl → R D := fun r => do
  let ds ← t r
  if ds.length ≤ szL then .ok (.tup ds) else .stuck
theorem se_lst {n : Nat} (h : SA X E ks (List.replicate n true) es t) : SE X E ks (.own none) (.List es pos) (gLst t) := by
  refine ⟨fun Hs H r σ W Q tk S P => ?_⟩
  refine we_of (pe_lst pa_wa) ?_
  refine h.run _ _ _ _ _ _ tk S (PostA.of P fun ds vs Hs' H' e1 g1 a P1 => ?_)
  have rp := a.reps
  split at P1
  · rename_i z
    exact ⟨by rw [szL_eq, rp.length]; exact z, fun p hp => P1.finL g1.sub hp rp⟩
  · exact P1.elim
theorem se_tup {n : Nat} {x1 : Nat} (h : SA X E ks (List.replicate n true) es t) : SE X E ks .val (.Tuple es x1 pos) (gTup t) := by
  refine ⟨fun Hs H r σ W Q tk S P => ?_⟩
  refine we_of (pe_tup pa_wa) ?_
  refine h.run _ _ _ _ _ _ tk S (PostA.of P fun ds vs Hs' H' e1 g1 a P1 => ?_)
  have rp := a.reps
  split at P1
  · rename_i z
    refine ⟨by rw [szL_eq, rp.length]; exact z, fun p hp => ?_⟩
    exact P1 _ _ _ (Grow.new g1.sub hp) (RK.val (.tup upd_same (RepL.same (Same.updNew (g1.sub.free hp)) _ _ rp)))
  · exact P1.elim

def CallV (K : PySem.W.Frag) (rr : List V → Hp → VK → Prop) (k : Kd) (bs : List Bool) (f : List D → R D) : Prop :=
  ∀ (cl : Cl) (Hs H : Hp) (ds : List D) (vs : List V) (Q : VK) (W : WX0), Same Hs H → RAs cl Hs H bs ds vs → Post cl k Hs H Q W (f ds) → rr vs H Q
@[simp] def gCall (f : List D → R D) (t : Sl → R (List D)) : Sl → R D := fun r => do
  let ds ← t r
  f ds
theorem se_callB {id : String} {x : Str} {p : Pos} {rr : List V → Hp → VK → Prop} {k : Kd} {f : List D → R D} (hc : CallR X (.builtin id) rr) (hv : CallV X.K rr k bs f) (hm : X.mg x = none) (hb : bootBuiltins x = some (.builtin id)) (ha : SA X E ks bs (e :: es) t)
    (hg : Gl X x := by rfl) (hn : x ≠ "__name__" := by decide) (hdb : (x == ("__debug__" : Str)) = false := by decide)
    (he : starEach (e :: es) X.env = (false, eval e X.env) :: starEach es X.env := by rfl) (hpl : (backTo pos (starEach es X.env)).any (·.1) = false := by rfl) : SE X E ks k (.Call (.Name x p) (e :: es) [] pos) (gCall f t) := by
  refine ⟨fun Hs H r σ W Q tk S P => ?_⟩
  refine we_of (pe_callB hc hg hm hb pa_wa hn hdb he hpl) ?_
  exact ha.run _ _ _ _ _ _ tk S (PostA.of P fun ds vs Hs' H' e1 g1 a P1 => hv _ _ _ _ _ _ _ g1.sub a P1)
theorem se_callTy {T : String} {x : Str} {p : Pos} {rr : List V → Hp → VK → Prop} {k : Kd} {f : List D → R D} (hc : CallR X (.type T) rr) (hv : CallV X.K rr k bs f) (hm : X.mg x = none) (hb : bootBuiltins x = some (.type T)) (ha : SA X E ks bs (e :: es) t)
    (hg : Gl X x := by rfl) (hn : x ≠ "__name__" := by decide) (hdb : (x == ("__debug__" : Str)) = false := by decide)
    (he : starEach (e :: es) X.env = (false, eval e X.env) :: starEach es X.env := by rfl) (hpl : (backTo pos (starEach es X.env)).any (·.1) = false := by rfl) : SE X E ks k (.Call (.Name x p) (e :: es) [] pos) (gCall f t) := by
  refine ⟨fun Hs H r σ W Q tk S P => ?_⟩
  refine we_of (pe_callTy hc hg hm hb pa_wa hn hdb he hpl) ?_
  exact ha.run _ _ _ _ _ _ tk S (PostA.of P fun ds vs Hs' H' e1 g1 a P1 => hv _ _ _ _ _ _ _ g1.sub a P1)
end

@[simp] def fLen : List D → R D
  | [.lst ds] => .ok (.int ds.length)
  | [.tup ds] => .ok (.int ds.length)
  | [.str x] => if x.length ≤ szL then .ok (.int x.length) else .stuck
  | [.dct ds] => .ok (.int ds.length)
  | _ => .stuck
theorem RAs.one {cl : Cl} {Hs H : Hp} {ds : List D} {vs : List V} (h : RAs cl Hs H [false] ds vs) : ∃ d v, ds = [d] ∧ vs = [v] ∧ RB cl Hs H d v := by
  cases h with
  | bor r t => cases t; exact ⟨_, _, rfl, rfl, r⟩
theorem RAs.two {cl : Cl} {Hs H : Hp} {ds : List D} {vs : List V} (h : RAs cl Hs H [false, false] ds vs) : ∃ d v d' v', ds = [d, d'] ∧ vs = [v, v'] ∧ RB cl Hs H d v ∧ RB cl Hs H d' v' := by
  cases h with
  | bor r t =>
    obtain ⟨d, v, rfl, rfl, r'⟩ := t.one
    exact ⟨_, _, _, _, rfl, rfl, r, r'⟩
theorem RepK.length {cl : Cl} {H : Hp} : ∀ {ds : List (Key × D)} {vs : List (Key × V)}, RepK cl H ds vs → vs.length = ds.length
  | [], _, h => by cases h; rfl
  | (k, d) :: ds, _, h => by
    cases h with
    | cons h1 h2 => rw [List.length_cons, List.length_cons, RepK.length h2]
theorem call_lenR {X : Cx} : CallR X (.builtin "len") (fun xs H Q => ∃ a kvs, xs = [V.ref a] ∧ Rd H a (.dK kvs) ∧ Q (.int kvs.length) H) := by
  intro pins s σ H xs us Q I r h
  obtain ⟨a, kvs, rfl, ha, q⟩ := h
  obtain ⟨u, rfl, ru⟩ := vals1 r
  cases ru
  exact d_len I ha fun t s' I' => ⟨.int kvs.length, H, I', ⟨t, rfl⟩, q⟩
theorem callv_len {X : Cx} : CallV X.K (fun xs H Q => (∃ x n, xs = [x] ∧ LenV X.K x H n ∧ Q (.int n) H) ∨ (∃ a kvs, xs = [V.ref a] ∧ Rd H a (.dK kvs) ∧ Q (.int kvs.length) H)) .val [false] fLen := by
  intro cl Hs H ds vs Q W e a P
  obtain ⟨d, v, rfl, rfl, r⟩ := a.one
  cases d <;> first | exact P.elim | skip
  · cases r.strInv
    dsimp only [fLen] at P
    split at P
    · rename_i h
      exact .inl ⟨_, _, rfl, ⟨by rw [szL_eq]; exact h, rfl⟩, P.finV e (.int _)⟩
    · exact P.elim
  · obtain ⟨p, xs, rfl, h1, r1⟩ := r.lstInv e
    refine .inl ⟨_, xs.length, rfl, .inl ⟨xs, SqL.of h1, rfl⟩, ?_⟩
    rw [r1.length]
    exact P.finV e (.int _)
  · obtain ⟨p, xs, rfl, h1, r1⟩ := r.tupInv e
    refine .inl ⟨_, xs.length, rfl, .inr ⟨xs, SqT.of h1, rfl⟩, ?_⟩
    rw [r1.length]
    exact P.finV e (.int _)
  · obtain ⟨p, xs, rfl, h1, r1⟩ := r.dctInv e
    refine .inr ⟨p, xs, rfl, h1, ?_⟩
    rw [r1.length]
    exact P.finV e (.int _)
@[simp] def fMin2 : List D → R D
  | [.int i, .int j] => .ok (.int (if j < i then j else i))
  | _ => .stuck
theorem callv_min2 {X : Cx} : CallV X.K (fun xs H Q => ∃ i j, xs = [.int i, .int j] ∧ Q (.int (if j < i then j else i)) H) .val [false, false] fMin2 := by
  intro cl Hs H ds vs Q W e a P
  obtain ⟨d, v, d', v', rfl, rfl, r, r'⟩ := a.two
  cases d <;> cases d' <;> first | exact P.elim | skip
  cases r.intInv
  cases r'.intInv
  exact ⟨_, _, rfl, P.finV e (.int _)⟩
/-- a list of whole numbers -/
def intsOf : List D → Option (List Int)
  | [] => some []
  | .int i :: r => (intsOf r).map (i :: ·)
  | _ :: _ => none
theorem intsOf_map (ns : List Int) : intsOf (ns.map D.int) = some ns := by
  induction ns with
  | nil => rfl
  | cons n ns ih => rw [List.map_cons, intsOf, ih]; rfl
theorem intsOf_eq : ∀ {ds : List D} {ns : List Int}, intsOf ds = some ns → ds = ns.map D.int
  | [], _, h => by cases h; rfl
  | d :: r, _, h => by
    cases d <;> first | cases h | skip
    rename_i i
    dsimp only [intsOf] at h
    cases q : intsOf r with
    | none => rw [q] at h; cases h
    | some ms =>
      rw [q] at h
      cases h
      rw [intsOf_eq q]
      rfl
def fSum : List D → R D
  | [.lst ds] => match intsOf ds with
    | some ns => .ok (.int ns.sum)
    | none => .stuck
  | _ => .stuck
def lmax : List Int → Int
  | [] => 0
  | [x] => x
  | x :: y :: r => max x (lmax (y :: r))
def lmin : List Int → Int
  | [] => 0
  | [x] => x
  | x :: y :: r => min x (lmin (y :: r))
theorem lmax_of : ∀ {ns : List Int} {m : Int}, m ∈ ns → (∀ y, y ∈ ns → y ≤ m) → m = lmax ns
  | [], _, h, _ => by cases h
  | [x], m, h, _ => by simpa [lmax] using h
  | x :: y :: r, m, h, k => by
    have hx : x ≤ m := k x (by simp)
    unfold lmax
    rcases List.mem_cons.mp h with e | h
    · subst e
      have : lmax (y :: r) ≤ m := by
        clear h
        have key : ∀ (l : List Int), l ≠ [] → (∀ z ∈ l, z ≤ m) → lmax l ≤ m := by
          intro l
          induction l with
          | nil => intro h; exact absurd rfl h
          | cons a t ih =>
            intro _ hz
            cases t with
            | nil => exact hz a (by simp)
            | cons b t =>
              unfold lmax
              have h1 := hz a (by simp)
              have h2 := ih (by simp) fun z hz' => hz z (List.mem_cons_of_mem _ hz')
              omega
        exact key _ (by simp) fun z hz => k z (List.mem_cons_of_mem _ hz)
      omega
    · have e := lmax_of h fun z hz => k z (List.mem_cons_of_mem _ hz)
      omega
theorem lmin_of : ∀ {ns : List Int} {m : Int}, m ∈ ns → (∀ y, y ∈ ns → m ≤ y) → m = lmin ns
  | [], _, h, _ => by cases h
  | [x], m, h, _ => by simpa [lmin] using h
  | x :: y :: r, m, h, k => by
    have hx : m ≤ x := k x (by simp)
    unfold lmin
    rcases List.mem_cons.mp h with e | h
    · subst e
      have : m ≤ lmin (y :: r) := by
        clear h
        have key : ∀ (l : List Int), l ≠ [] → (∀ z ∈ l, m ≤ z) → m ≤ lmin l := by
          intro l
          induction l with
          | nil => intro h; exact absurd rfl h
          | cons a t ih =>
            intro _ hz
            cases t with
            | nil => exact hz a (by simp)
            | cons b t =>
              unfold lmin
              have h1 := hz a (by simp)
              have h2 := ih (by simp) fun z hz' => hz z (List.mem_cons_of_mem _ hz')
              omega
        exact key _ (by simp) fun z hz => k z (List.mem_cons_of_mem _ hz)
      omega
    · have e := lmin_of h fun z hz => k z (List.mem_cons_of_mem _ hz)
      omega
def fMax1 : List D → R D
  | [.lst ds] => match intsOf ds with
    | some ns => if ns = [] then .stuck else .ok (.int (lmax ns))
    | none => .stuck
  | _ => .stuck
def fMin1 : List D → R D
  | [.lst ds] => match intsOf ds with
    | some ns => if ns = [] then .stuck else .ok (.int (lmin ns))
    | none => .stuck
  | _ => .stuck
theorem RB.intsInv {cl : Cl} {Hs H : Hp} {ds : List D} {ns : List Int} {v : V} (h : RB cl Hs H (.lst ds) v) (e : Same Hs H) (q : intsOf ds = some ns) : ∃ a, v = .ref a ∧ H a = some (.lst (ns.map V.int)) := by
  obtain ⟨p, xs, rfl, h1, r1⟩ := h.lstInv e
  rw [intsOf_eq q] at r1
  rw [r1.ints] at h1
  exact ⟨p, rfl, h1⟩
theorem callv_sum {X : Cx} : CallV X.K (rSum X.K) .val [false] fSum := by
  intro cl Hs H ds vs Q W e a P
  obtain ⟨d, v, rfl, rfl, r⟩ := a.one
  cases d <;> first | exact P.elim | skip
  dsimp only [fSum] at P
  split at P
  · rename_i ns q
    obtain ⟨p, rfl, h1⟩ := r.intsInv e q
    exact ⟨p, ns, rfl, SqL.of h1, P.finV e (.int _)⟩
  · exact P.elim
theorem callv_max1 {X : Cx} : CallV X.K (rMax X.K) .val [false] fMax1 := by
  intro cl Hs H ds vs Q W e a P
  obtain ⟨d, v, rfl, rfl, r⟩ := a.one
  cases d <;> first | exact P.elim | skip
  dsimp only [fMax1] at P
  split at P
  · rename_i ns q
    split at P
    · exact P.elim
    · rename_i hn
      obtain ⟨p, rfl, h1⟩ := r.intsInv e q
      refine ⟨p, ns, rfl, SqL.of h1, List.length_pos_iff.mpr hn, fun m hm hle => ?_⟩
      rw [lmax_of hm hle]
      exact P.finV e (.int _)
  · exact P.elim
theorem callv_min1 {X : Cx} : CallV X.K (rMin X.K) .val [false] fMin1 := by
  intro cl Hs H ds vs Q W e a P
  obtain ⟨d, v, rfl, rfl, r⟩ := a.one
  cases d <;> first | exact P.elim | skip
  dsimp only [fMin1] at P
  split at P
  · rename_i ns q
    split at P
    · exact P.elim
    · rename_i hn
      obtain ⟨p, rfl, h1⟩ := r.intsInv e q
      refine ⟨p, ns, rfl, SqL.of h1, List.length_pos_iff.mpr hn, fun m hm hle => ?_⟩
      rw [lmin_of hm hle]
      exact P.finV e (.int _)
  · exact P.elim
@[simp] def fList : List D → R D
  | [.lst ds] => .ok (.lst ds)
  | [.tup ds] => .ok (.lst ds)
  | _ => .stuck
theorem callv_list {X : Cx} : CallV X.K (fun xs H Q => ∃ p ys, xs = [.ref p] ∧ (SqL X.K H p ys ∨ SqT X.K H p ys) ∧ ∀ l, H l = none → Q (.ref l) (upd H l (.lst ys))) (.own none) [false] fList := by
  intro cl Hs H ds vs Q W e a P
  obtain ⟨d, v, rfl, rfl, r⟩ := a.one
  cases d <;> first | exact P.elim | skip
  · obtain ⟨p, xs, rfl, h1, r1⟩ := r.lstInv e
    exact ⟨p, xs, rfl, .inl (SqL.of h1), fun l hl => P.finL e hl r1⟩
  · obtain ⟨p, xs, rfl, h1, r1⟩ := r.tupInv e
    exact ⟨p, xs, rfl, .inr (SqT.of h1), fun l hl => P.finL e hl r1⟩
end VL
end

noncomputable section
namespace VL
open PySem PySem.Spec PyProof.Rows L2
variable {md : Md}

theorem turn_longrange {P : Program} {w : World} {K : PySem.W.Frag} {tg : Expr} (it : Addr) (lo : Int) (n : Nat) : Turn P w K tg (Itr lo n) [it] it (fun i h => IsLongIter h it (lo + (i : Nat) * 1) ((n : Int) - (i : Nat)) 1) where
  mem := by simp
  obj := fun i h st b hb => by
    have e : b = it := by simpa using hb
    subst e
    exact ⟨_, st, fun v z => by
      have z' : Data.fields _ = Data.cell v := z
      cases z'⟩
  keep := fun i h h' st k => k it (by simp) _ st
  item := by
    intro X hP hw hK hc i pins s σ H E I hf st hg
    subst hP hw hK
    obtain ⟨f0, f1, f2, f3, f4, f5⟩ := hf it (by simp)
    have W := Walks.longrange (prog := X.prog) (w := X.w) (I.ok.hd hc) it lo 1 n
    refine W.item i s _ _ hg st fun v h' tk hv st' kk => ?_
    obtain ⟨t, rfl⟩ := hv
    have I1 : Inv X pins σ H { s with heap := h', toks := tk } := I.turned (fun b o hb e => kk b o (by simpa using hb) e) f0 f1 f3 f4 f5
    refine ⟨_, rfl, go_of (s := { s with heap := h', toks := tk }) (n := "longrange_iterator") st' rfl rfl (by decide) ⟨.int (lo + i), H, I1, ⟨t, ?_⟩, ⟨rfl, rfl⟩, st', fun b hb => (hf b hb).1⟩⟩
    rw [Int.mul_one]
  done := by
    intro X hP hw hK hc i pins s σ H E I hf st hg
    subst hP hw hK
    obtain ⟨f0, f1, f2, f3, f4, f5⟩ := hf it (by simp)
    exact wpAny_pyNext_long_end (I.ok.hd hc) st (by have : n ≤ i := hg; omega) fun h' eb => ⟨rfl, I.turned (t' := s.toks) (fun b o hb e => eb b o hb e) f0 f1 f3 f4 f5⟩
  self := fun _ _ _ _ _ st h => wpAny_pyIter_longiter st h
section
variable {X : Cx} {tg : Expr}
/-- a range object just made, walked, wherever its ends lie -/
theorem range_itA {pins : List (Addr × Obj)} {σ : L2.St} {H : Hp} {s : Shared} {R : It → Hp → Prop} {E : Value → Shared → Prop} {lo hi : Int} {t u v : Tok} {tk : Nat} (I : Inv X pins σ H s)
    (q : R (Itr lo (hi - lo).toNat) H) : wpAny (model X.prog X.w) X.A (pyIter (.ref s.heap.objs.size)) (PIE X pins σ tg R) E { s with heap := s.heap.push { cls := .type "range", data := .fields #[.int lo t, .int hi u, .int 1 v] }, toks := tk } := by
  have I1 : Inv X pins σ H { s with heap := s.heap.push { cls := .type "range", data := .fields #[.int lo t, .int hi u, .int 1 v] }, toks := tk } := I.kept fun b o e => Heap.get?_push_of_some _ e
  have e1 : lo + ((0 : Nat) : Int) * 1 = lo := by simp
  have e2 : (((hi - lo).toNat : Nat) : Int) - ((0 : Nat) : Int) = Builtin.Range.rangeSize lo hi 1 := by rw [rangeSize_one]; split <;> omega
  cases z : Builtin.Range.small lo hi 1 with
  | true =>
    refine wpAny_pyIter_range (IsRange.new ..) z ?_
    refine ⟨_, [_], _, _, H, rfl, I1.kept (t' := tk) fun b o e => Heap.get?_push_of_some _ e, turn_range _ lo (hi - lo).toNat, ?_, fun b hb => ?_, q⟩
    · show IsRangeIter _ _ (lo + ((0 : Nat) : Int) * 1) ((((hi - lo).toNat : Nat) : Int) - ((0 : Nat) : Int)) 1
      rw [e1, e2]
      exact Heap.get?_push_size _ rfl
    · have e := List.mem_singleton.mp hb
      subst e
      exact I1.fpOk (Nat.le_refl _) (I1.hok.fresh (Nat.le_refl _))
  | false =>
    refine wpAny_pyIter_longrange (IsRange.new ..) z ?_
    refine ⟨_, [_], _, _, H, rfl, I1.kept (t' := tk) fun b o e => Heap.get?_push_of_some _ e, turn_longrange _ lo (hi - lo).toNat, ?_, fun b hb => ?_, q⟩
    · show IsLongIter _ _ (lo + ((0 : Nat) : Int) * 1) ((((hi - lo).toNat : Nat) : Int) - ((0 : Nat) : Int)) 1
      rw [e1, e2]
      exact Heap.get?_push_size _ rfl
    · have e := List.mem_singleton.mp hb
      subst e
      exact I1.fpOk (Nat.le_refl _) (I1.hok.fresh (Nat.le_refl _))
def iRngA1 (ta : TA) : TI := fun σ H R => ta σ H fun vs H1 => ∃ j : Int, vs = [.int j] ∧ R (Itr 0 j.toNat) H1
def iRngA2 (ta : TA) : TI := fun σ H R => ta σ H fun vs H1 => ∃ i j : Int, vs = [.int i, .int j] ∧ R (Itr i (j - i).toNat) H1
theorem pi_rangeA1 {a : Expr} {ta : TA} {p pos : Pos} (hg : Gl X "range") (hm : X.mg "range" = none) (ha : PA X [a] ta) (hs : starEach [a] X.env = [(false, eval a X.env)] := by rfl) : PI X tg (.Call (.Name "range" p) [a] [] pos) (iRngA1 ta) := by
  refine ⟨fun pins s σ H R I h => ?_⟩
  refine Call_ (ld_blt I hg hm boot_range (PyProof.Rows.callWith_type1 (thn (ha.run pos pins s σ H _ I h) fun us s1 ⟨vs, H1, I1, r1, q1⟩ => ?_) hs rfl))
  obtain ⟨j, e, q⟩ := q1
  subst e
  cases r1 with
  | cons r rr =>
    cases rr
    obtain ⟨t, rfl⟩ := r
    exact call_range_1 (range_itA I1 (by simpa using q))
theorem pi_rangeA2 {a b : Expr} {ta : TA} {p pos : Pos} (hg : Gl X "range") (hm : X.mg "range" = none) (ha : PA X [a, b] ta) (hs : starEach [a, b] X.env = [(false, eval a X.env), (false, eval b X.env)] := by rfl) (hs2 : starEach [b] X.env = [(false, eval b X.env)] := by rfl) :
    PI X tg (.Call (.Name "range" p) [a, b] [] pos) (iRngA2 ta) := by
  refine ⟨fun pins s σ H R I h => ?_⟩
  refine Call_ (ld_blt I hg hm boot_range (PyProof.Rows.callWith_type1 (thn (ha.run pos pins s σ H _ I h) fun us s1 ⟨vs, H1, I1, r1, q1⟩ => ?_) (by rw [hs, hs2]) (by rw [hs2]; rfl)))
  obtain ⟨i, j, e, q⟩ := q1
  subst e
  cases r1 with
  | cons r rr =>
    cases rr with
    | cons r' rr =>
      cases rr
      obtain ⟨t, rfl⟩ := r
      obtain ⟨t', rfl⟩ := r'
      exact call_range_2 (range_itA I1 q)
end

def setV (σ : L2.St) : List Nat → List V → L2.St
  | i :: is, v :: vs => setV (σ.set i (some v)) is vs
  | _, _ => σ
@[simp] def setD (r : Sl) : List Nat → List D → Sl
  | i :: is, d :: ds => setD (r.set i (some d)) is ds
  | _, _ => r
def setK (ks : List Kd) : List Nat → List Kd
  | i :: is => setK (ks.set i .val) is
  | [] => ks
inductive Tg where
  | one (i : Nat)
  | tup (is : List Nat)
@[simp] def Tg.is : Tg → List Nat
  | .one i => [i]
  | .tup is => is
@[simp] def Tg.un : Tg → D → R (List D)
  | .one _, d => .ok [d]
  | .tup is, .tup ds => if ds.length = is.length then .ok ds else .stuck
  | .tup _, _ => .stuck
def WGx (X : Cx) (tg : Expr) : TG := fun v σ H Q => ∃ t, PG X tg t ∧ t v σ H Q
theorem pg_wg {X : Cx} {tg : Expr} : PG X tg (WGx X tg) := ⟨fun pins s σ H v u Q I r ⟨t, p, h⟩ => p.run pins s σ H v u Q I r h⟩
structure SG (X : Cx) (tg : Expr) (t : Tg) : Prop where
  run : ∀ (cl : Cl) (Hs H : Hp) (σ : L2.St) (d : D) (v : V) (ds : List D) (Q : L2.St → Hp → Prop), Same Hs H → Rep cl Hs d v → t.un d = .ok ds → (∀ vs, RepL cl Hs ds vs → Q (setV σ t.is vs) H) → WGx X tg v σ H Q
section
variable {X : Cx} {pos : Pos}
theorem sg_name {i : Nat} {x : Str} (hN : X.N.Nodup) (hi : X.N[i]? = some x := by rfl) (hx : Loc X.env.scope x := by first | exact Or.inl rfl | exact Or.inr rfl)
    (hf : X.fn x = true ∨ X.env.scope.names.lookup x = some .local := by first | exact .inl rfl | exact .inr rfl | assumption) : SG X (.Name x pos) (.one i) := by
  refine ⟨fun cl Hs H σ d v ds Q e r h q => ?_⟩
  cases h
  exact ⟨_, pg_name hN hi hx hf, q [v] (.cons r .nil)⟩
def gsN : List Nat → TGs
  | [] => L2.gNil
  | i :: is => L2.gCons (gName i) (gsN is)
theorem gsN_read : ∀ {is : List Nat} {vs : List V} {σ : L2.St} {H : Hp} {Q : L2.St → Hp → Prop}, vs.length = is.length → Q (setV σ is vs) H → gsN is vs σ H Q
  | [], [], _, _, _, _, q => ⟨rfl, q⟩
  | [], _ :: _, _, _, _, h, _ => by cases h
  | _ :: _, [], _, _, _, h, _ => by cases h
  | i :: is, v :: vs, σ, H, Q, h, q => ⟨v, vs, rfl, gsN_read (by simpa using h) q⟩
theorem sgs_nil : PGs X [] (gsN []) := pgs_nil
theorem sgs_cons {i : Nat} {x : Str} {es : List Expr} {is : List Nat} (hN : X.N.Nodup) (ht : PGs X es (gsN is)) (hi : X.N[i]? = some x := by rfl) (hx : Loc X.env.scope x := by first | exact Or.inl rfl | exact Or.inr rfl)
    (hf : X.fn x = true ∨ X.env.scope.names.lookup x = some .local := by first | exact .inl rfl | exact .inr rfl | assumption)
    (hs : (assignEach (.Name x pos :: es) X.env).map (·.2) = assign (.Name x pos) X.env :: (assignEach es X.env).map (·.2) := by rfl) : PGs X (.Name x pos :: es) (gsN (i :: is)) := pgs_cons (pg_name hN hi hx hf) ht hs
theorem sg_tup {es : List Expr} {is : List Nat} {k : Nat} (hc : X.calm = true) (h : PGs X es (gsN is)) (hn : (assignEach es X.env).length = is.length := by rfl) (hst : (assignEach es X.env).findIdx? (·.1) = none := by rfl) : SG X (.Tuple es k pos) (.tup is) := by
  refine ⟨fun cl Hs H σ d v ds Q e r hu q => ?_⟩
  cases d <;> first | (cases hu; done) | skip
  dsimp only [Tg.un] at hu
  split at hu
  · rename_i hl
    cases hu
    cases r with
    | tup h1 h2 => exact ⟨_, pg_tup hc h hn hst, _, _, rfl, SqT.of (e.at _ _ h1), by rw [h2.length]; exact hl, gsN_read (by rw [h2.length]; exact hl) (q _ h2)⟩
  · cases hu
end
section
variable {E : En} {Hs H : Hp} {ks : List Kd} {r : Sl} {σ : L2.St}
theorem StOk.put {As : List Addr} {i : Nat} {k : Kd} {d : D} {v : V} (S : StOk E Hs H ks r σ As) (hk : ks[i]? = some k) (rp : Rep E.cl Hs d v) : ∃ As', StOk E Hs H (ks.set i .val) (r.set i (some d)) (σ.set i (some v)) As' := by
  obtain ⟨pre, A, post, e, _, f, _, _⟩ := S.sl.at_ i hk
  have sub : (pre ++ ([] ++ post)).Sublist As := by
    rw [e]
    exact List.Sublist.append (List.Sublist.refl _) (by
      rw [List.nil_append]
      exact List.sublist_append_right _ _)
  exact ⟨_, f .val d v [] (.val rp), S.nd.sublist sub, fun a ha => S.dis a (sub.subset ha), S.es, S.sub, S.eb, S.new, S.dom, S.tb⟩
theorem StRel.put {i : Nat} {k : Kd} {d : D} {v : V} (S : StRel E Hs H ks r σ) (hk : ks[i]? = some k) (rp : Rep E.cl Hs d v) : StRel E Hs H (ks.set i .val) (r.set i (some d)) (σ.set i (some v)) :=
  let ⟨_, s⟩ := S
  s.put hk rp
theorem StRel.wipe1 {i : Nat} {k k' : Kd} (S : StRel E Hs H ks r σ) (hk : ks[i]? = some k) (x : Option V) : StRel E Hs H (ks.set i k') (r.set i none) (σ.set i x) := by
  obtain ⟨As, S⟩ := S
  obtain ⟨pre, A, post, e, _, _, f, _⟩ := S.sl.at_ i hk
  have sub : (pre ++ post).Sublist As := by
    rw [e]
    exact List.Sublist.append (List.Sublist.refl _) (List.sublist_append_right _ _)
  exact ⟨_, f k' x, S.nd.sublist sub, fun a ha => S.dis a (sub.subset ha), S.es, S.sub, S.eb, S.new, S.dom, S.tb⟩
theorem StRel.puts : ∀ {is : List Nat} {ks : List Kd} {r : Sl} {σ : L2.St} {ds : List D} {vs : List V}, StRel E Hs H ks r σ → (∀ i ∈ is, i < ks.length) → ds.length = is.length → RepL E.cl Hs ds vs → StRel E Hs H (setK ks is) (setD r is ds) (setV σ is vs)
  | [], _, _, _, [], _, S, _, _, rp => by cases rp; exact S
  | [], _, _, _, _ :: _, _, _, _, h, _ => by cases h
  | _ :: _, _, _, _, [], _, _, _, h, _ => by cases h
  | i :: is, ks, r, σ, d :: ds, _, S, hi, hl, rp => by
    cases rp with
    | cons r1 r2 =>
      have h0 := hi i List.mem_cons_self
      refine StRel.puts (is := is) (S.put (k := ks[i]) (by simp [h0]) r1) (fun j hj => ?_) (by simpa using hl) r2
      rw [List.length_set]
      exact hi j (List.mem_cons_of_mem _ hj)
end
theorem Tg.un_len {t : Tg} {d : D} {ds : List D} (h : t.un d = .ok ds) : ds.length = t.is.length := by
  cases t with
  | one i => cases h; rfl
  | tup is =>
    cases d <;> first | (cases h; done) | skip
    dsimp only [Tg.un] at h
    split at h
    · rename_i e
      cases h
      exact e
    · cases h

/-- all lists are within the line -/
def LenOk (H : Hp) : Prop := ∀ a xs, H a = some (.lst xs) → xs.length ≤ szL
def LenOkT (H : Hp) : Prop := ∀ a xs, H a = some (.tup xs) → xs.length ≤ szL
theorem Inv.lens {X : Cx} {pins : List (Addr × Obj)} {σ : L2.St} {H : Hp} {s : Shared} (I : Inv X pins σ H s) : LenOk H ∧ LenOkT H :=
  ⟨fun a xs e => by
    have q := (I.hok a _ e).1
    rw [szL_eq] at q
    exact q, fun a xs e => by
    have q := (I.hok a _ e).1
    rw [szL_eq] at q
    exact q⟩
theorem we_len {X : Cx} {e : Expr} {σ : L2.St} {H : Hp} {Q : VK} (h : WEx X e σ H fun v H' => LenOk H' ∧ LenOkT H' → Q v H') : WEx X e σ H Q := fun pins s I => thn (h pins s I) fun u s' ⟨v, H', I', r, q⟩ => ⟨v, H', I', r, q (VL.Inv.lens I')⟩
structure ItOk (cl : Cl) (J : It) (ds : List D) (Hs1 Bq : Hp) : Prop where
  len : ds.length ≤ szL
  go : ∀ Hs H, Same Hs1 Hs → Same Hs H → Same Bq H → ∀ i, i < ds.length → J.go i H
  stop : ∀ Hs H, Same Hs1 Hs → Same Hs H → Same Bq H → J.stop ds.length H
  yld : ∀ Hs H, Same Hs1 Hs → Same Hs H → Same Bq H → ∀ i d x H', ds[i]? = some d → J.yld i H x H' → ∃ Hs', Grow Hs H Hs' H' ∧ Rep cl Hs' d x
/-- what may be walked while others change: stable, or borrowed from the caller; md = false: while nothing is changed -/
inductive RQ (cl : Cl) (Hs Bq : Hp) : D → V → Prop
  | val {d : D} {v : V} : Rep cl Hs d v → RQ cl Hs Bq d v
  | lst {a : Addr} {ds : List D} {xs : List V} : Bq a = some (.lst xs) → RepL cl Hs ds xs → RQ cl Hs Bq (.lst ds) (.ref a)
  | dct {a : Addr} {ds : List (Key × D)} {xs : List (Key × V)} : Rd Bq a (.dK xs) → RepK cl Hs ds xs → RQ cl Hs Bq (.dct ds) (.ref a)
  | obj {C : Str} {ds : List (Str × D)} {v : V} : RQ cl Hs Bq (.obj C ds) v
def bq (E : En) (md : Bool) (H : Hp) : Hp := if md then E.b else H
def PostQ (E : En) (md : Bool) (Hs H : Hp) (Q : VK) (W : WX0) : R D → Prop
  | .stuck => False
  | .exc x => ∀ c dd Hs' H', Grow Hs H Hs' H' → XRep E.cl Hs' H' x c dd → W c dd H'
  | .ok d => ∀ v Hs' H', Grow Hs H Hs' H' → RQ E.cl Hs' (bq E md H') d v → Q v H'
theorem PostQ.grow {E : En} {md : Bool} {Hs H Hs' H' : Hp} {Q : VK} {W : WX0} {r : R D} (P : PostQ E md Hs H Q W r) (g : Grow Hs H Hs' H') : PostQ E md Hs' H' Q W r := by
  cases r with
  | stuck => exact P
  | exc x => exact fun c dd Hs2 H2 g2 x2 => P c dd Hs2 H2 (g.trans g2) x2
  | ok d => exact fun v Hs2 H2 g2 => P v Hs2 H2 (g.trans g2)
structure SQ [md : Md] (X : Cx) (E : En) (ks : List Kd) (md : Bool) (e : Expr) (g : Sl → R D) : Prop where
  run : ∀ (Hs H : Hp) (r : Sl) (σ : L2.St) (W : WX) (Q : VK), Takes X W → StRel E Hs H ks r σ → PostQ E md Hs H Q (fun c dd H' => W c dd σ H') (g r) → WEx X e σ H Q
section
variable {X : Cx} {E : En} {ks : List Kd} {md : Bool} {e : Expr} {g : Sl → R D} {pos : Pos}
theorem sq_val (h : SE X E ks .val e g) : SQ X E ks md e g := by
  refine ⟨fun Hs H r σ W Q tk S P => ?_⟩
  refine h.run _ _ _ _ _ _ tk S ?_
  cases q : g r with
  | stuck => rw [q] at P; exact P
  | exc x => rw [q] at P; exact P
  | ok d =>
    rw [q] at P
    exact fun v Hs' H' g1 k1 => P v Hs' H' g1 (.val k1.rep)
theorem sq_bor (h : SE X E ks .bor e g) : SQ X E ks false e g := by
  refine ⟨fun Hs H r σ W Q tk S P => ?_⟩
  refine h.run _ _ _ _ _ _ tk S ?_
  cases q : g r with
  | stuck => rw [q] at P; exact P
  | exc x => rw [q] at P; exact P
  | ok d =>
    rw [q] at P
    intro v Hs' H' g1 k1
    refine P v Hs' H' g1 ?_
    cases k1.rb with
    | val h1 => exact .val h1
    | lst h1 h2 => exact .lst h1 h2
    | dct h1 h2 => exact .dct h1 h2
    | obj _ _ _ => exact .obj
theorem sq_par {i : Nat} {x : Str} (hk : ks[i]? = some .bor := by rfl) (hN : X.N[i]? = some x := by rfl) (hv : Vis X.env.scope x := by first | exact Or.inl rfl | exact Or.inr (Or.inl rfl) | exact Or.inr (Or.inr rfl))
    (hq : NmOk x) : SQ X E ks true (.Name x pos) (gVar i) := by
  refine ⟨fun Hs H r σ W Q tk S P => ?_⟩
  refine we_of (pe_var hN hv hq.1 hq.2) ?_
  cases q : gVar i r with
  | stuck => rw [q] at P; exact P.elim
  | exc x => exact (gVar_exc q).elim
  | ok d =>
    rw [q] at P
    obtain ⟨v, A, e, o⟩ := S.get hk (gVar_ok q)
    refine ⟨v, e, P v Hs H (Grow.refl S.sub) ?_⟩
    cases o with
    | borV rp => exact .val rp
    | borL h1 h2 => exact .lst h1 h2
    | borK h1 h2 => exact .dct h1 h2
    | borO _ _ _ => exact .obj
end
def WIx (X : Cx) (tg iter : Expr) : TI := fun σ H R => ∃ wi, PI X tg iter wi ∧ wi σ H R
theorem pi_wi {X : Cx} {tg iter : Expr} : PI X tg iter (WIx X tg iter) := ⟨fun pins s σ H R I ⟨wi, p, h⟩ => p.run pins s σ H R I h⟩
def PostI (E : En) (md : Bool) (Hs H : Hp) (Rr : It → Hp → Prop) (W : WX0) : R (List D) → Prop
  | .stuck => False
  | .exc x => ∀ c dd Hs' H', Grow Hs H Hs' H' → XRep E.cl Hs' H' x c dd → W c dd H'
  | .ok ds => ∀ J Hs' H', Grow Hs H Hs' H' → ItOk E.cl J ds Hs' (bq E md H') → Rr J H'
theorem PostI.grow {E : En} {md : Bool} {Hs H Hs' H' : Hp} {Q : It → Hp → Prop} {W : WX0} {r : R (List D)} (P : PostI E md Hs H Q W r) (g : Grow Hs H Hs' H') : PostI E md Hs' H' Q W r := by
  cases r with
  | stuck => exact P
  | exc x => exact fun c dd Hs2 H2 g2 x2 => P c dd Hs2 H2 (g.trans g2) x2
  | ok d => exact fun v Hs2 H2 g2 => P v Hs2 H2 (g.trans g2)
structure SI [md : Md] (X : Cx) (E : En) (ks : List Kd) (md : Bool) (tg iter : Expr) (g : Sl → R (List D)) : Prop where
  run : ∀ (Hs H : Hp) (r : Sl) (σ : L2.St) (W : WX) (Q : It → Hp → Prop), Takes X W → StRel E Hs H ks r σ → PostI E md Hs H Q (fun c dd H' => W c dd σ H') (g r) → WIx X tg iter σ H Q
/-- what is walked of a value -/
@[simp] def dIter : D → R (List D)
  | .lst ds => .ok ds
  | .tup ds => .ok ds
  | .str x => if x.cps.size ≤ szL then .ok (x.cps.toList.map fun c => .str ⟨#[c]⟩) else .stuck
  | _ => .stuck
@[simp] def gIter (g : Sl → R D) : Sl → R (List D) := fun r => do
  let d ← g r
  dIter d
section
variable {X : Cx} {E : En} {ks : List Kd} {md : Bool} {tg e e2 : Expr} {g g2 : Sl → R D} {pos p : Pos}
theorem PostQ.ofI {Hs H : Hp} {Q : It → Hp → Prop} {W : WX0} {r : R D} {f : D → R (List D)} (P : PostI E md Hs H Q W (r >>= f)) {Q1 : VK}
    (h : ∀ d v Hs' H', r = .ok d → Grow Hs H Hs' H' → RQ E.cl Hs' (bq E md H') d v → PostI E md Hs' H' Q W (f d) → Q1 v H') : PostQ E md Hs H Q1 W r := by
  cases r with
  | stuck => exact P
  | exc x => exact P
  | ok d => exact fun v Hs' H' g rk => h d v Hs' H' rfl g rk (PostI.grow (r := f d) P g)
theorem RQ.root {cl : Cl} {Hs Bq H Hs' : Hp} {ds : List D} {v : V} (q : RQ cl Hs Bq (.lst ds) v) : ∃ a xs, v = .ref a ∧ RepL cl Hs ds xs ∧ ∀ Hs' H, Same Hs Hs' → Same Hs' H → Same Bq H → H a = some (.lst xs) := by
  cases q with
  | val r =>
    cases r with
    | lst h1 h2 => exact ⟨_, _, rfl, h2, fun Hs' H e1 e2 _ => e2.at _ _ (e1.at _ _ h1)⟩
  | lst h1 h2 => exact ⟨_, _, rfl, h2, fun Hs' H _ _ e3 => e3.at _ _ h1⟩
theorem bq_same {H : Hp} (hb : Same E.b H) : Same (bq E md H) H := by
  unfold bq
  split
  · exact hb
  · exact Same.refl _
theorem ItOk.lst {K : PySem.W.Frag} {cl : Cl} {a : Addr} {xs : List V} {ds : List D} {Hs Bq : Hp} (rp : RepL cl Hs ds xs) (rt : ∀ Hs' H, Same Hs Hs' → Same Hs' H → Same Bq H → H a = some (.lst xs)) (hz : xs.length ≤ szL) : ItOk cl (Itl K a) ds Hs Bq where
  len := by rw [← rp.length]; exact hz
  go := fun Hs' H e1 e2 e3 i hi => by
    obtain ⟨v, e, _⟩ := rp.get (d := ds[i]) (i := i) (by simp [hi])
    exact ⟨xs, v, SqL.of (rt Hs' H e1 e2 e3), e⟩
  stop := fun Hs' H e1 e2 e3 => ⟨xs, SqL.of (rt Hs' H e1 e2 e3), by rw [rp.length]; exact Nat.le_refl _⟩
  yld := fun Hs' H e1 e2 e3 i d x H' hd y => by
    obtain ⟨rfl, y⟩ := y
    obtain ⟨v, e, r⟩ := rp.get hd
    have q := y xs (SqL.of (rt Hs' _ e1 e2 e3))
    rw [e] at q
    cases q
    exact ⟨Hs', Grow.refl e2, Rep.same e1 _ _ r⟩
theorem ItOk.tup {K : PySem.W.Frag} {cl : Cl} {a : Addr} {xs : List V} {ds : List D} {Hs Bq : Hp} (rp : RepL cl Hs ds xs) (ha : Hs a = some (.tup xs)) (hz : xs.length ≤ szL) : ItOk cl (Itt K a) ds Hs Bq where
  len := by rw [← rp.length]; exact hz
  go := fun Hs' H e1 e2 e3 i hi => by
    obtain ⟨v, e, _⟩ := rp.get (d := ds[i]) (i := i) (by simp [hi])
    exact ⟨xs, v, SqT.of (e2.at _ _ (e1.at _ _ ha)), e⟩
  stop := fun Hs' H e1 e2 e3 => ⟨xs, SqT.of (e2.at _ _ (e1.at _ _ ha)), by rw [rp.length]; exact Nat.le_refl _⟩
  yld := fun Hs' H e1 e2 e3 i d x H' hd y => by
    obtain ⟨rfl, y⟩ := y
    obtain ⟨v, e, r⟩ := rp.get hd
    have q := y xs (SqT.of (e2.at _ _ (e1.at _ _ ha)))
    rw [e] at q
    cases q
    exact ⟨Hs', Grow.refl e2, Rep.same e1 _ _ r⟩
theorem ItOk.str {cl : Cl} {x : Str} {Hs Bq : Hp} (hz : x.cps.size ≤ szL) : ItOk cl (Its x) (x.cps.toList.map fun c => .str ⟨#[c]⟩) Hs Bq where
  len := by rw [List.length_map]; exact hz
  go := fun Hs' H e1 e2 e3 i hi => by
    rw [List.length_map] at hi
    exact hi
  stop := fun Hs' H e1 e2 e3 => by
    show x.cps.size ≤ _
    rw [List.length_map]
    exact Nat.le_refl _
  yld := fun Hs' H e1 e2 e3 i d v H' hd y => by
    obtain ⟨rfl, c, hc, rfl⟩ := y
    rw [List.getElem?_map, Array.getElem?_toList, hc] at hd
    cases hd
    exact ⟨Hs', Grow.refl e2, .str _⟩
theorem si_it (h : SQ X E ks md e g) : SI X E ks md tg e (gIter g) := by
  refine ⟨fun Hs H r σ W Q tk S P => ?_⟩
  have sb : Same E.b H := let ⟨_, s⟩ := S; s.eb
  unfold gIter at P
  have key : ∀ (wi : TI) (Q1 : VK), PI X tg e wi → (WEx X e σ H Q1 → wi σ H Q) → WEx X e σ H Q1 → WIx X tg e σ H Q := fun wi Q1 p f w => ⟨wi, p, f w⟩
  cases q : g r with
  | stuck => rw [q] at P; exact P.elim
  | exc x =>
    refine ⟨_, pi_list pe_we, ?_⟩
    refine h.run _ _ _ _ _ _ tk S ?_
    rw [q] at P ⊢
    exact P
  | ok d =>
    cases d with
    | lst ds =>
      refine ⟨_, pi_list pe_we, ?_⟩
      refine we_len (h.run _ _ _ _ _ _ tk S (PostQ.ofI P fun d v Hs1 H1 e1 g1 k1 P1 => ?_))
      rw [q] at e1
      cases e1
      obtain ⟨a, xs, rfl, rp, rt⟩ := k1.root (H := H1) (Hs' := Hs1)
      intro hl
      have e0 := rt Hs1 H1 (Same.refl _) g1.sub (bq_same (sb.trans g1.h))
      exact ⟨a, rfl, ⟨xs, SqL.of e0⟩, P1 _ Hs1 H1 (Grow.refl g1.sub) (ItOk.lst rp rt (hl.1 _ _ e0))⟩
    | tup ds =>
      refine ⟨_, pi_tup pe_we, ?_⟩
      refine we_len (h.run _ _ _ _ _ _ tk S (PostQ.ofI P fun d v Hs1 H1 e1 g1 k1 P1 => ?_))
      rw [q] at e1
      cases e1
      intro hl
      cases k1 with
      | val k =>
        cases k with
        | tup h1 h2 =>
          have e0 := g1.sub.at _ _ h1
          exact ⟨_, rfl, ⟨_, SqT.of e0⟩, P1 _ Hs1 H1 (Grow.refl g1.sub) (ItOk.tup h2 h1 (hl.2 _ _ e0))⟩
    | str x =>
      refine ⟨_, pi_str pe_we, ?_⟩
      refine h.run _ _ _ _ _ _ tk S (PostQ.ofI P fun d v Hs1 H1 e1 g1 k1 P1 => ?_)
      rw [q] at e1
      cases e1
      cases k1 with
      | val k =>
        cases k
        dsimp only [dIter] at P1
        split at P1
        · rename_i hz
          exact ⟨_, rfl, P1 _ Hs1 H1 (Grow.refl g1.sub) (ItOk.str hz)⟩
        · exact P1.elim
    | _ => rw [q] at P; exact P.elim
/-- lo, lo + 1, .. -/
def rangeD (lo : Int) (n : Nat) : List D := (List.range n).map fun (i : Nat) => D.int (lo + i)
theorem rangeD_len (lo : Int) (n : Nat) : (rangeD lo n).length = n := by simp [rangeD]
theorem ItOk.rng {cl : Cl} {lo : Int} {n : Nat} {Hs Bq : Hp} (hz : n ≤ szL) : ItOk cl (Itr lo n) (rangeD lo n) Hs Bq where
  len := by rw [rangeD_len]; exact hz
  go := fun Hs' H e1 e2 e3 i hi => by rw [rangeD_len] at hi; exact hi
  stop := fun Hs' H e1 e2 e3 => by rw [rangeD_len]; exact Nat.le_refl n
  yld := fun Hs' H e1 e2 e3 i d v H' hd y => by
    obtain ⟨rfl, rfl⟩ := y
    unfold rangeD at hd
    rw [List.getElem?_map] at hd
    by_cases hi : i < n
    · rw [List.getElem?_range hi] at hd
      cases hd
      exact ⟨Hs', Grow.refl e2, .int _⟩
    · rw [List.getElem?_eq_none (by simpa using hi)] at hd
      cases hd
def dRange1 : D → R (List D)
  | .int j => if j.toNat ≤ szL then .ok (rangeD 0 j.toNat) else .stuck
  | _ => .stuck
def dRange2 : D → D → R (List D)
  | .int i, .int j => if (j - i).toNat ≤ szL then .ok (rangeD i (j - i).toNat) else .stuck
  | _, _ => .stuck
@[simp] def gRange1 (g : Sl → R D) : Sl → R (List D) := fun r => do
  let d ← g r
  dRange1 d
@[simp] def gRange2 (g g2 : Sl → R D) : Sl → R (List D) := fun r => do
  let d ← g r
  let d2 ← g2 r
  dRange2 d d2
theorem Post.ofI {k : Kd} {Hs H : Hp} {Q : It → Hp → Prop} {W : WX0} {r : R D} {f : D → R (List D)} (P : PostI E md Hs H Q W (r >>= f)) {Q1 : VK}
    (h : ∀ d v Hs' H', r = .ok d → Grow Hs H Hs' H' → RK E.cl k H Hs' H' d v → PostI E md Hs' H' Q W (f d) → Q1 v H') : Post E.cl k Hs H Q1 W r := by
  cases r with
  | stuck => exact P
  | exc x => exact P
  | ok d => exact fun v Hs' H' g rk => h d v Hs' H' rfl g rk (PostI.grow (r := f d) P g)
theorem wa_one {σ : L2.St} {H : Hp} {Q : List V → Hp → Prop} (h : WEx X e σ H fun v H' => Q [v] H') (hs : starEach (e :: []) X.env = (false, eval e X.env) :: starEach [] X.env := by rfl) : WAx X [e] σ H Q := wa_of (pa_cons pe_we pa_nil hs) h
theorem wa_two {σ : L2.St} {H : Hp} {Q : List V → Hp → Prop} (h : WEx X e σ H fun v H' => WEx X e2 σ H' fun v2 H2 => Q [v, v2] H2) (hs : starEach (e :: [e2]) X.env = (false, eval e X.env) :: starEach [e2] X.env := by rfl) (hs2 : starEach (e2 :: []) X.env = (false, eval e2 X.env) :: starEach [] X.env := by rfl) : WAx X [e, e2] σ H Q :=
  wa_of (pa_cons pe_we (pa_cons pe_we pa_nil hs2) hs) h
theorem si_range1 (hm : X.mg "range" = none) (h : SE X E ks .bor e g) (hg : Gl X "range" := by rfl) (hs : starEach [e] X.env = [(false, eval e X.env)] := by rfl) : SI X E ks md tg (.Call (.Name "range" p) [e] [] pos) (gRange1 g) := by
  refine ⟨fun Hs H r σ W Q tk S P => ?_⟩
  refine ⟨_, pi_rangeA1 hg hm pa_wa hs, ?_⟩
  refine wa_one (h.run _ _ _ _ _ _ tk S (Post.ofI P fun d v Hs1 H1 e1 g1 k1 P1 => ?_)) hs
  cases d <;> first | exact P1.elim | skip
  cases k1.rb.intInv
  dsimp only [dRange1] at P1
  split at P1
  · rename_i z
    exact ⟨_, rfl, P1 _ Hs1 H1 (Grow.refl g1.sub) (ItOk.rng z)⟩
  · exact P1.elim
theorem si_range2 (hm : X.mg "range" = none) (h : SE X E ks .bor e g) (h2 : SE X E ks .bor e2 g2) (hg : Gl X "range" := by rfl) (hs : starEach [e, e2] X.env = [(false, eval e X.env), (false, eval e2 X.env)] := by rfl) (hs2 : starEach [e2] X.env = [(false, eval e2 X.env)] := by rfl) :
    SI X E ks md tg (.Call (.Name "range" p) [e, e2] [] pos) (gRange2 g g2) := by
  refine ⟨fun Hs H r σ W Q tk S P => ?_⟩
  refine ⟨_, pi_rangeA2 hg hm pa_wa hs hs2, ?_⟩
  refine wa_two (h.run _ _ _ _ _ _ tk S (Post.ofI (f := fun d => g2 r >>= fun d2 => dRange2 d d2) P fun d v Hs1 H1 e1 g1 k1 P1 => ?_)) (by rw [hs, hs2]) hs2
  refine h2.run _ _ _ _ _ _ tk (S.grow g1) (Post.ofI P1 fun d2 v2 Hs2 H2 e2 gg k2 P2 => ?_)
  cases d <;> cases d2 <;> first | exact P2.elim | skip
  cases k1.rb.intInv
  cases k2.rb.intInv
  dsimp only [dRange2] at P2
  split at P2
  · rename_i z
    exact ⟨_, _, rfl, P2 _ Hs2 H2 (Grow.refl gg.sub) (ItOk.rng z)⟩
  · exact P2.elim
end

def mapR {α β : Type} (f : α → R β) : List α → R (List β)
  | [] => .ok []
  | a :: l => do
    let b ← f a
    let bs ← mapR f l
    .ok (b :: bs)
theorem mapR_ok {α β : Type} {f : α → R β} : ∀ {l : List α} {bs : List β}, mapR f l = .ok bs → bs.length = l.length ∧ ∀ (i : Nat) a, l[i]? = some a → ∃ b, bs[i]? = some b ∧ f a = .ok b
  | [], bs, h => by
    cases h
    exact ⟨rfl, fun i a z => by simp at z⟩
  | a :: l, bs, h => by
    dsimp only [mapR] at h
    cases q : f a with
    | stuck => rw [q] at h; cases h
    | exc x => rw [q] at h; cases h
    | ok b =>
      rw [q] at h
      cases q2 : mapR f l with
      | stuck => rw [q2] at h; cases h
      | exc x => rw [q2] at h; cases h
      | ok bs' =>
        rw [q2] at h
        cases h
        obtain ⟨h1, h2⟩ := mapR_ok q2
        refine ⟨by simp [h1], fun i a' z => ?_⟩
        cases i with
        | zero =>
          simp at z
          subst z
          exact ⟨b, rfl, q⟩
        | succ i =>
          obtain ⟨b', e, e2⟩ := h2 i a' (by simpa using z)
          exact ⟨b', by simpa using e, e2⟩
def noX {α : Type} : R α → R α
  | .ok a => .ok a
  | _ => .stuck
theorem noX_ok {α : Type} {r : R α} {a : α} (h : noX r = .ok a) : r = .ok a := by
  cases r <;> first | cases h | skip
  rfl
@[simp] def wipeD (r : Sl) : List Nat → Sl
  | [] => r
  | v :: vs => (wipeD r vs).set v none
def wipeK (ks : List Kd) : List Nat → List Kd
  | [] => ks
  | v :: vs => (wipeK ks vs).set v .val
/-- one turn of a comprehension -/
def gTurn (t : Tg) (vs : List Nat) (tt : Sl → R Bool) (ge : Sl → R D) (r : Sl) (d : D) : R (Option D) := do
  let xs ← t.un d
  let b ← tt (setD (wipeD r vs) t.is xs)
  if b then (do
    let y ← ge (setD (wipeD r vs) t.is xs)
    .ok (some y)) else .ok none
def gComp (gi : Sl → R (List D)) (t : Tg) (vs : List Nat) (tt : Sl → R Bool) (ge : Sl → R D) : Sl → R D := fun r => do
  let ds ← gi r
  let os ← noX (mapR (gTurn t vs tt ge r) ds)
  .ok (.lst (os.filterMap id))

@[simp] def gYes : Sl → R Bool := fun _ => .ok true
def WPs (X : Cx) (ifs : List Expr) : TT := fun σ H Q => ∃ t, PTs X ifs t ∧ t σ H Q
theorem pts_wp {X : Cx} {ifs : List Expr} : PTs X ifs (WPs X ifs) := ⟨fun pins s σ H Q I ⟨t, p, h⟩ => p.run pins s σ H Q I h⟩
structure SP1 [md : Md] (X : Cx) (E : En) (ks : List Kd) (ifs : List Expr) (g : Sl → R Bool) : Prop where
  run : ∀ (Hs H : Hp) (r : Sl) (σ : L2.St) (W : WX) (Q : Bool → Hp → Prop), Takes X W → StRel E Hs H ks r σ → PostT E.cl Hs H Q (fun c dd H' => W c dd σ H') (g r) → WPs X ifs σ H Q
theorem sp_nil {X : Cx} {E : En} {ks : List Kd} : SP1 X E ks [] gYes := ⟨fun Hs H r σ W Q tk S P => ⟨_, pts_nil, P Hs H (Grow.refl S.sub)⟩⟩
theorem sp_one {X : Cx} {E : En} {ks : List Kd} {c : Expr} {g : Sl → R Bool} (h : ST X E ks c g) : SP1 X E ks [c] g := ⟨fun Hs H r σ W Q tk S P => ⟨_, pts_one pt_wt, h.run _ _ _ _ _ _ tk S P⟩⟩
theorem StRel.wipe {E : En} {Hs H : Hp} {r : Sl} {σ : L2.St} {ks : List Kd} (S : StRel E Hs H ks r σ) : ∀ (vs : List Nat), (∀ i ∈ vs, i < ks.length) → StRel E Hs H (wipeK ks vs) (wipeD r vs) (wipe σ vs) ∧ (wipeK ks vs).length = ks.length
  | [], _ => ⟨S, rfl⟩
  | v :: vs, h => by
    obtain ⟨q, l⟩ := StRel.wipe S vs fun i hi => h i (List.mem_cons_of_mem _ hi)
    have hv : v < (wipeK ks vs).length := by rw [l]; exact h v List.mem_cons_self
    refine ⟨q.wipe1 (k := (wipeK ks vs)[v]) (by simp [hv]) none, ?_⟩
    show ((wipeK ks vs).set v .val).length = _
    rw [List.length_set, l]
theorem wipe_set {σ : L2.St} {i : Nat} {x : V} : ∀ {vs : List Nat}, i ∈ vs → wipe (σ.set i (some x)) vs = wipe σ vs
  | [], h => by cases h
  | v :: vs, h => by
    by_cases hm : i ∈ vs
    · show (wipe (σ.set i (some x)) vs).set v none = (wipe σ vs).set v none
      rw [wipe_set hm]
    · have e : i = v := by
        rcases List.mem_cons.mp h with z | z
        · exact z
        · exact absurd z hm
      subst e
      have key : ∀ (vs : List Nat) (σ : L2.St), i ∉ vs → wipe (σ.set i (some x)) vs = (wipe σ vs).set i (some x) := by
        intro vs
        induction vs with
        | nil => intro σ _; rfl
        | cons w ws ih =>
          intro σ hn
          have h1 : i ≠ w := fun z => hn (z ▸ List.mem_cons_self)
          show (wipe (σ.set i (some x)) ws).set w none = ((wipe σ ws).set w none).set i (some x)
          rw [ih σ fun z => hn (List.mem_cons_of_mem _ z), List.set_comm _ _ h1]
      show (wipe (σ.set i (some x)) vs).set i none = (wipe σ vs).set i none
      rw [key vs σ hm, List.set_set]
theorem wipe_setV : ∀ {is : List Nat} {xs : List V} {σ : L2.St} {vs : List Nat}, (∀ i ∈ is, i ∈ vs) → wipe (setV σ is xs) vs = wipe σ vs
  | [], [], _, _, _ => rfl
  | [], _ :: _, _, _, _ => rfl
  | _ :: _, [], _, _, _ => rfl
  | i :: is, x :: xs, σ, vs, h => by
    show wipe (setV (σ.set i (some x)) is xs) vs = _
    rw [wipe_setV fun j hj => h j (List.mem_cons_of_mem _ hj), wipe_set (h i List.mem_cons_self)]
theorem wipe_idem {σ : L2.St} : ∀ (vs : List Nat), wipe (wipe σ vs) vs = wipe σ vs := fun vs => by
  have key : ∀ (ws : List Nat) (τ : L2.St), (∀ i ∈ ws, τ[i]? = some none ∨ τ[i]? = none) → wipe τ ws = τ := by
    intro ws
    induction ws with
    | nil => intro τ _; rfl
    | cons w ws ih =>
      intro τ h
      show (wipe τ ws).set w none = τ
      rw [ih τ fun i hi => h i (List.mem_cons_of_mem _ hi)]
      rcases h w List.mem_cons_self with e | e
      · obtain ⟨hw, e2⟩ := List.getElem?_eq_some_iff.mp e
        rw [← e2, List.set_getElem_self]
      · rw [List.set_eq_of_length_le (by simpa using e)]
  refine key vs _ fun i hi => ?_
  cases q : (wipe σ vs)[i]? with
  | none => exact .inr rfl
  | some o =>
    cases o with
    | none => exact .inl rfl
    | some x => exact absurd hi (wipe_some q).2
theorem filterMap_take {os : List (Option D)} {i : Nat} {o : Option D} (h : os[i]? = some o) : (os.take (i + 1)).filterMap id = (os.take i).filterMap id ++ o.toList := by
  rw [List.take_add_one, h, List.filterMap_append]
  cases o <;> rfl
def rdG (X : Cx) (scope : Scope) (tg : Expr) : TG := fun v σ H Q => ∀ (s : Shared) (H0 : Hp) (C : Addr) (cl : List (Str × Addr)) (fp : List Addr), WGx (X.blk s H0 scope (compEnvC scope cl C X.env) fp) tg v σ H Q
def rdT (X : Cx) (scope : Scope) (ifs : List Expr) : TT := fun σ H Q => ∀ (s : Shared) (H0 : Hp) (C : Addr) (cl : List (Str × Addr)) (fp : List Addr), WPs (X.blk s H0 scope (compEnvC scope cl C X.env) fp) ifs σ H Q
def rdE (X : Cx) (scope : Scope) (elt : Expr) : TE := fun σ H Q => ∀ (s : Shared) (H0 : Hp) (C : Addr) (cl : List (Str × Addr)) (fp : List Addr), WEx (X.blk s H0 scope (compEnvC scope cl C X.env) fp) elt σ H Q
theorem pg_rd {X : Cx} {scope : Scope} {tg : Expr} (s : Shared) (H : Hp) (C : Addr) (cl : List (Str × Addr)) (fp : List Addr) : PG (X.blk s H scope (compEnvC scope cl C X.env) fp) tg (rdG X scope tg) :=
  ⟨fun pins s' σ H' v u Q' I r h => pg_wg.run pins s' σ H' v u Q' I r (h s H C cl fp)⟩
theorem pts_rd {X : Cx} {scope : Scope} {ifs : List Expr} (s : Shared) (H : Hp) (C : Addr) (cl : List (Str × Addr)) (fp : List Addr) : PTs (X.blk s H scope (compEnvC scope cl C X.env) fp) ifs (rdT X scope ifs) :=
  ⟨fun pins s' σ H' Q' I h => pts_wp.run pins s' σ H' Q' I (h s H C cl fp)⟩
theorem pe_rd {X : Cx} {scope : Scope} {elt : Expr} (s : Shared) (H : Hp) (C : Addr) (cl : List (Str × Addr)) (fp : List Addr) : PE (X.blk s H scope (compEnvC scope cl C X.env) fp) elt (rdE X scope elt) :=
  ⟨fun pins s' σ H' Q' I h => h s H C cl fp pins s' I⟩
/-- the reading of a comprehension -/
theorem comp_read {X : Cx} {E : En} {ks : List Kd} {elt tg iter : Expr} {ifs : List Expr} {scope : Scope} {vs : List Nat} {t : Tg} {gi : Sl → R (List D)} {tt : Sl → R Bool} {ge : Sl → R D}
    (hi : SI X E ks false tg iter gi) (hv : ∀ i ∈ vs, i < ks.length) (hm : ∀ i ∈ t.is, i ∈ vs)
    (hg : ∀ (s : Shared) (H : Hp) (C : Addr) (cl : List (Str × Addr)) (fp : List Addr), SG (X.blk s H scope (compEnvC scope cl C X.env) fp) tg t)
    (ht : ∀ (s : Shared) (H : Hp) (C : Addr) (cl : List (Str × Addr)) (fp : List Addr), SP1 (X.blk s H scope (compEnvC scope cl C X.env) fp) E (setK (wipeK ks vs) t.is) ifs tt)
    (he : ∀ (s : Shared) (H : Hp) (C : Addr) (cl : List (Str × Addr)) (fp : List Addr), SE (X.blk s H scope (compEnvC scope cl C X.env) fp) E (setK (wipeK ks vs) t.is) .val elt ge)
    {Hs H : Hp} {r : Sl} {σ : L2.St} {W : WX} {Q : VK} (tk : Takes X W) (S : StRel E Hs H ks r σ) (P : Post E.cl (.own none) Hs H Q (fun c dd H' => W c dd σ H') (gComp gi t vs tt ge r)) :
    tLc (WIx X tg iter) (rdG X scope tg) (rdT X scope ifs) (rdE X scope elt) vs σ H Q := by
  refine hi.run _ _ _ _ _ _ tk S ?_
  unfold gComp at P
  cases q : gi r with
  | stuck => rw [q] at P; exact P
  | exc x => rw [q] at P; exact P
  | ok ds =>
    rw [q] at P
    intro J Hs1 H1 g1 J1 D hD
    have P1 := Post.grow (r := noX (mapR (gTurn t vs tt ge r) ds) >>= fun os => R.ok (VL.D.lst (os.filterMap id))) P g1
    cases q2 : noX (mapR (gTurn t vs tt ge r) ds) with
    | stuck => rw [q2] at P1; exact P1.elim
    | exc x =>
      cases q3 : mapR (gTurn t vs tt ge r) ds <;> rw [q3] at q2 <;> cases q2
    | ok os =>
      rw [q2] at P1
      obtain ⟨hlen, hturn⟩ := mapR_ok (noX_ok q2)
      have P1' : Post E.cl (.own none) Hs1 H1 Q (fun c dd H' => W c dd σ H') (R.ok (VL.D.lst (os.filterMap id))) := P1
      have S1 := S.grow g1
      refine ⟨fun i m H' => m = ds.length - i ∧ i ≤ ds.length ∧ ∃ Hs' acc, Grow Hs1 H1 Hs' H' ∧ H' D = some (.lst acc) ∧ Hs' D = none ∧ RepL E.cl Hs' ((os.take i).filterMap id) acc ∧ acc.length ≤ i,
        ⟨ds.length, by simp, Nat.zero_le _, Hs1, [], Grow.fresh g1.sub hD, upd_same, g1.sub.free hD, .nil, Nat.le_refl _⟩, ?_⟩
      rintro i m H' ⟨rfl, hi', Hs', acc, g2, eD, nD, rp, hacc⟩
      have sq : Same (bq E false H1) H' := g2.h
      by_cases hlt : i < ds.length
      · refine .inr ⟨J1.go Hs' H' g2.s g2.sub sq i hlt, fun H2 => ∃ Hs2 acc2, Grow Hs1 H1 Hs2 H2 ∧ H2 D = some (.lst acc2) ∧ Hs2 D = none ∧ RepL E.cl Hs2 ((os.take (i + 1)).filterMap id) acc2 ∧ acc2.length ≤ i + 1, ?_, ?_⟩
        · rintro H2 ⟨Hs2, acc2, z1, z2, z3, z4, z5⟩
          exact ⟨ds.length - (i + 1), by omega, rfl, hlt, Hs2, acc2, z1, z2, z3, z4, z5⟩
        · intro x H2 y s0 H0 C cl fp
          obtain ⟨d, hd⟩ : ∃ d, ds[i]? = some d := ⟨ds[i], by simp [hlt]⟩
          obtain ⟨Hs2, g3, rx⟩ := J1.yld Hs' H' g2.s g2.sub sq i d x H2 hd y
          obtain ⟨o, ho, hf⟩ := hturn i d hd
          unfold gTurn at hf
          cases q4 : t.un d with
          | stuck => rw [q4] at hf; cases hf
          | exc x => rw [q4] at hf; cases hf
          | ok xs =>
            rw [q4] at hf
            refine (hg s0 H0 C cl fp).run E.cl Hs2 H2 _ d x xs _ g3.sub rx q4 fun ys ry => ⟨by rw [wipe_setV hm, wipe_idem], fun s1 H01 C1 cl1 fp1 => ?_⟩
            have g23 := g2.trans g3
            obtain ⟨S2, hl2⟩ := StRel.wipe (S1.grow g23) vs hv
            have S3 : StRel E Hs2 H2 (setK (wipeK ks vs) t.is) (setD (wipeD r vs) t.is xs) (setV (wipe σ vs) t.is ys) :=
              StRel.puts S2 (fun j hj => by rw [hl2]; exact hv j (hm j hj)) (Tg.un_len q4) ry
            have eD2 : H2 D = some (.lst acc) := g3.h.at _ _ eD
            have nD2 : ∀ {Hsx Hx : Hp}, Grow Hs' H' Hsx Hx → Hsx D = none := fun {Hsx Hx} gx => by
              cases qq : Hsx D with
              | none => rfl
              | some u =>
                rcases gx.n D (by rw [qq]; simp) with z | z
                · exact absurd nD z
                · rw [eD] at z; cases z
            refine (ht s1 H01 C1 cl1 fp1).run _ _ _ _ (fun _ _ _ _ => False) _ takesF S3 ?_
            have hf' : (tt (setD (wipeD r vs) t.is xs) >>= fun b => if b then (ge (setD (wipeD r vs) t.is xs) >>= fun y => R.ok (some y)) else R.ok none) = R.ok o := hf
            cases q5 : tt (setD (wipeD r vs) t.is xs) with
            | stuck => rw [q5] at hf'; cases hf'
            | exc x => rw [q5] at hf'; cases hf'
            | ok b =>
              rw [q5] at hf'
              intro Hs3 H3 g4
              cases b with
              | false =>
                have e0 : (R.ok none : R (Option VL.D)) = R.ok o := hf'
                cases e0
                refine iteF ⟨Hs3, acc, g23.trans g4, g4.h.at _ _ eD2, nD2 (g3.trans g4), ?_, by omega⟩
                rw [filterMap_take ho]
                simpa using RepL.same (g3.trans g4).s _ _ rp
              | true =>
                refine iteT fun s2 H02 C2 cl2 fp2 => ?_
                refine (he s2 H02 C2 cl2 fp2).run _ _ _ _ (fun _ _ _ _ => False) _ takesF (S3.grow g4) ?_
                have hf2 : (ge (setD (wipeD r vs) t.is xs) >>= fun y => R.ok (some y)) = R.ok o := hf'
                cases q6 : ge (setD (wipeD r vs) t.is xs) with
                | stuck => rw [q6] at hf2; cases hf2
                | exc x => rw [q6] at hf2; cases hf2
                | ok y =>
                  rw [q6] at hf2
                  have e0 : (R.ok (some y) : R (Option VL.D)) = R.ok o := hf2
                  cases e0
                  intro v Hs4 H4 g5 k5
                  have g35 := (g3.trans g4).trans g5
                  have hD4 : H4 D = some (.lst acc) := g35.h.at _ _ eD
                  have hN4 := nD2 g35
                  have g25 := g2.trans g35
                  have hz : acc.length < sizeLine := by
                    rw [szL_eq]
                    have := J1.len
                    omega
                  refine ⟨acc, hD4, hz, Hs4, acc ++ [v], ⟨g25.s, ⟨fun b u e nt => ?_⟩, g25.n, ⟨fun b u e nt => ?_⟩, fun P z => tab_mut hD4 P (g25.t P z)⟩, upd_same, hN4, ?_, by simp; omega⟩
                  · rw [upd_ne (ne_of_none e hD)] at nt ⊢
                    exact g25.h.k _ _ e nt
                  · rw [upd_ne (ne_of_none e hN4)] at nt ⊢
                    exact g25.sub.k _ _ e nt
                  · rw [filterMap_take ho]
                    exact (RepL.same g35.s _ _ rp).app (.cons k5.rep .nil)
      · have e : i = ds.length := by omega
        subst e
        refine .inl ⟨J1.stop Hs' H' g2.s g2.sub sq, ?_⟩
        rw [← hlen, List.take_length] at rp
        refine P1' (.ref D) Hs' H' g2 ⟨[D], .ownL ⟨hD, fun _ z => nomatch z⟩ eD rp, by simp, fun a ha => ?_⟩
        have q : a = D := by simpa using ha
        subst q
        exact ⟨nD, hD⟩
theorem se_comp {X : Cx} {E : En} {ks : List Kd} {elt tg iter : Expr} {ifs : List Expr} {scope : Scope} {pos : Pos} {t : Tg} {gi : Sl → R (List D)} {tt : Sl → R Bool} {ge : Sl → R D}
    (own : List (Str × Nat)) (hc : X.calm = true) (hN : X.N.Nodup) (hi : SI X E ks false tg iter gi) (ok : BlkOk X.N X.env.scope scope own) (hv : ∀ i ∈ own.map (·.2), i < ks.length) (hm : ∀ i ∈ t.is, i ∈ own.map (·.2))
    (hg : ∀ (s : Shared) (H : Hp) (C : Addr) (cl : List (Str × Addr)) (fp : List Addr), SG (X.blk s H scope (compEnvC scope cl C X.env) fp) tg t)
    (ht : ∀ (s : Shared) (H : Hp) (C : Addr) (cl : List (Str × Addr)) (fp : List Addr), SP1 (X.blk s H scope (compEnvC scope cl C X.env) fp) E (setK (wipeK ks (own.map (·.2))) t.is) ifs tt)
    (he : ∀ (s : Shared) (H : Hp) (C : Addr) (cl : List (Str × Addr)) (fp : List Addr), SE (X.blk s H scope (compEnvC scope cl C X.env) fp) E (setK (wipeK ks (own.map (·.2))) t.is) .val elt ge)
    (hs : ∀ x, foldedSetIterable iter X.env x = pure x := by intro _; rfl) : SE X E ks (.own none) (.ListComp elt [⟨tg, iter, ifs, 0⟩] scope pos) (gComp gi t (own.map (·.2)) tt ge) := by
  refine ⟨fun Hs H r σ W Q tk S P => ?_⟩
  exact we_of (pe_lc hc hN pi_wi ok pg_rd pts_rd pe_rd hs) (comp_read hi hv hm hg ht he tk S P)
end VL
end

noncomputable section
namespace VL
open PySem PySem.Spec PyProof.Rows L2
variable {md : Md}

section
variable {cl : Cl}
mutual
theorem ORep.anyB {N : Addr → Prop} {B B' Hs H : Hp} : ∀ (k : Kd) (d : D) (v : V) (A : List Addr), k.fine = true → ORep cl N B Hs H k d v A → ORep cl N B' Hs H k d v A
  | .val, _, _, _, _, h => by
    cases h with
    | val h1 => exact .val h1
  | .bor, _, _, _, z, _ => by cases z
  | .own n, _, _, _, _, h => by
    cases h with
    | ownL h0 h1 h2 => exact .ownL h0 h1 h2
    | ownK h0 h1 h2 => exact .ownK h0 h1 h2
    | ownV h0 h1 => exact .ownV h0 h1
  | .obj n ks, _, _, _, z, h => by
    cases h with
    | obj h0 h1 h2 h3 => exact .obj h0 h1 h2 (OFs.anyB ks _ _ _ (by simpa [Kd.fine] using z) h3)
  | .lls n k, _, _, _, z, h => by
    cases h with
    | lls h0 h1 h2 => exact .lls h0 h1 (OLs.imp (fun _ => True) (fun _ _ _ => trivial) (fun _ _ _ => trivial) (fun d v A _ o => ORep.anyB k d v A z o) trivial h2)
    | llT h0 h1 h2 => exact .llT h0 h1 (OLs.imp (fun _ => True) (fun _ _ _ => trivial) (fun _ _ _ => trivial) (fun d v A _ o => ORep.anyB k d v A z o) trivial h2)
    | llV h0 h1 => exact .llV h0 h1
theorem OFs.anyB {N : Addr → Prop} {B B' Hs H : Hp} : ∀ (ks : List (Str × Kd)) (ds : List (Str × D)) (xs : List (Str × V)) (A : List Addr), Kd.fine.fines ks = true → OFs cl N B Hs H ks ds xs A → OFs cl N B' Hs H ks ds xs A
  | [], _, _, _, _, h => by cases h; exact .nil
  | (f, k) :: ks, _, _, _, z, h => by
    have z' : k.fine = true ∧ Kd.fine.fines ks = true := by simpa [Kd.fine.fines] using z
    cases h with
    | cons h1 h2 => exact .cons (ORep.anyB k _ _ _ z'.1 h1) (OFs.anyB ks _ _ _ z'.2 h2)
end
end

section
variable {E : En} {Hs H Hs' H' : Hp} {ks : List Kd} {r : Sl} {σ : L2.St}
theorem RK.new (S : StRel E Hs H ks r σ) (g : Grow Hs H Hs' H') {k : Kd} {d : D} {v : V} (f : k.fine = true) (rk : RK E.cl k H Hs' H' d v) :
    ∃ A, ORep E.cl E.N E.b Hs' H' k d v A ∧ A.Nodup ∧ (∀ a ∈ A, Hs' a = none ∧ E.b a = none ∧ H a = none) := by
  obtain ⟨As, S⟩ := S
  obtain ⟨A, o, nd, z⟩ := rk
  exact ⟨A, ORep.anyB k _ _ _ f (ORep.mono (Same.refl _) (Same.refl _) (fun a q => S.dom a q) k _ _ _ (fun _ _ => rfl) o), nd, fun a ha => ⟨(z a ha).1, S.eb.free (z a ha).2, (z a ha).2⟩⟩
theorem nodup_mid {α : Type} {pre A post A' : List α} (h : (pre ++ (A ++ post)).Nodup) (hA : A'.Nodup) (d : ∀ a ∈ A', a ∉ pre ++ post) : (pre ++ (A' ++ post)).Nodup := by
  have h1 : (pre ++ post).Nodup := h.sublist (List.Sublist.append (List.Sublist.refl _) (List.sublist_append_right _ _))
  have p : (pre ++ (A' ++ post)).Perm (A' ++ (pre ++ post)) := by
    rw [← List.append_assoc, ← List.append_assoc]
    exact List.Perm.append_right _ List.perm_append_comm
  exact p.nodup_iff.mpr (List.nodup_append.mpr ⟨hA, h1, fun a ha b hb z => d a ha (z ▸ hb)⟩)
theorem StRel.putK {i : Nat} {k0 k : Kd} {d : D} {v : V} (S : StRel E Hs H ks r σ) (g : Grow Hs H Hs' H') (hk : ks[i]? = some k0) (f : k.fine = true) (rk : RK E.cl k H Hs' H' d v) : StRel E Hs' H' (ks.set i k) (r.set i (some d)) (σ.set i (some v)) := by
  obtain ⟨A', o, nd, z⟩ := RK.new S g f rk
  obtain ⟨As, S0⟩ := S
  have hh := S0.sl.here
  have S1 := S0.grow g
  obtain ⟨pre, A, post, e, _, q, _, _⟩ := S1.sl.at_ i hk
  have d1 : ∀ a ∈ A', a ∉ pre ++ post := fun a ha hm => by
    have : a ∈ As := by
      rw [e]
      rcases List.mem_append.mp hm with w | w
      · exact List.mem_append_left _ w
      · exact List.mem_append_right _ (List.mem_append_right _ w)
    obtain ⟨u, hu, _⟩ := hh a this
    rw [(z a ha).2.2] at hu
    cases hu
  refine ⟨_, q k d v A' o, nodup_mid (e ▸ S1.nd) nd d1, fun a ha => ?_, S1.es, S1.sub, S1.eb, S1.new, S1.dom, S1.tb⟩
  rcases List.mem_append.mp ha with w | w
  · exact S1.dis a (by rw [e]; exact List.mem_append_left _ w)
  · rcases List.mem_append.mp w with w | w
    · exact ⟨(z a w).1, (z a w).2.1⟩
    · exact S1.dis a (by rw [e]; exact List.mem_append_right _ (List.mem_append_right _ w))
theorem StRel.push {k : Kd} {d : D} {v : V} (S : StRel E Hs H ks r σ) (g : Grow Hs H Hs' H') (f : k.fine = true) (rk : RK E.cl k H Hs' H' d v) : StRel E Hs' H' (k :: ks) (some d :: r) (some v :: σ) := by
  obtain ⟨A', o, nd, z⟩ := RK.new S g f rk
  obtain ⟨As, S0⟩ := S
  have hh := S0.sl.here
  have S1 := S0.grow g
  have d1 : ∀ a ∈ A', a ∉ As := fun a ha hm => by
    obtain ⟨u, hu, _⟩ := hh a hm
    rw [(z a ha).2.2] at hu
    cases hu
  refine ⟨_, .cons o S1.sl, List.nodup_append.mpr ⟨nd, S1.nd, fun a ha b hb z => d1 a ha (z ▸ hb)⟩, fun a ha => ?_, S1.es, S1.sub, S1.eb, S1.new, S1.dom, S1.tb⟩
  rcases List.mem_append.mp ha with w | w
  · exact ⟨(z a w).1, (z a w).2.1⟩
  · exact S1.dis a w
/-- the value of a slot leaves it -/
theorem StRel.take {i : Nat} {k : Kd} {d : D} (S : StRel E Hs H ks r σ) (hk : ks[i]? = some k) (hd : r[i]? = some (some d)) : ∃ v, σ[i]? = some (some v) ∧ StRel E Hs H (k :: ks) (some d :: r.set i none) (some v :: σ) := by
  obtain ⟨As, S⟩ := S
  obtain ⟨pre, A, post, e, q1, _, q2, _⟩ := S.sl.at_ i hk
  obtain ⟨v, ev, o⟩ := q1 d hd
  refine ⟨v, ev, _, .cons o (by
    have z := q2 k (some v)
    have e1 : ks.set i k = ks := by
      obtain ⟨h, e2⟩ := List.getElem?_eq_some_iff.mp hk
      rw [← e2, List.set_getElem_self]
    have e3 : σ.set i (some v) = σ := by
      obtain ⟨h, e2⟩ := List.getElem?_eq_some_iff.mp ev
      rw [← e2, List.set_getElem_self]
    rw [e1, e3] at z
    exact z), ?_, fun a ha => S.dis a ?_, S.es, S.sub, S.eb, S.new, S.dom, S.tb⟩
  · have p : (A ++ (pre ++ post)).Perm As := by
      rw [e, ← List.append_assoc, ← List.append_assoc]
      exact List.Perm.append_right _ List.perm_append_comm
    exact p.nodup_iff.mpr S.nd
  · rw [e]
    rcases List.mem_append.mp ha with w | w
    · exact List.mem_append_right _ (List.mem_append_left _ w)
    · rcases List.mem_append.mp w with w | w
      · exact List.mem_append_left _ w
      · exact List.mem_append_right _ (List.mem_append_right _ w)
/-- an owned list is changed where it lies -/
theorem StRel.mutL {i : Nat} {n : Option Addr} {ds : List D} (S : StRel E Hs H ks r σ) (hk : ks[i]? = some (.own n)) (hd : r[i]? = some (some (.lst ds))) :
    ∃ a xs, σ[i]? = some (some (.ref a)) ∧ H a = some (.lst xs) ∧ RepL E.cl Hs ds xs ∧ ∀ ds' xs', RepL E.cl Hs ds' xs' → StRel E Hs (upd H a (.lst xs')) ks (r.set i (some (.lst ds'))) σ := by
  obtain ⟨As, S⟩ := S
  obtain ⟨pre, A, post, e, q1, _, _, q3⟩ := S.sl.at_ i hk
  obtain ⟨v, ev, o⟩ := q1 _ hd
  cases o with
  | ownV h0 h1 => cases h0
  | ownL h0 h1 h2 =>
    rename_i a xs
    refine ⟨a, xs, ev, h1, h2, fun ds' xs' rp => ?_⟩
    have ha : a ∈ As := by rw [e]; exact List.mem_append_right _ (List.mem_append_left _ (by simp))
    have nd := S.nd
    rw [e] at nd
    have hn : ∀ b ∈ pre ++ post, b ≠ a := fun b hb z => by
      subst z
      rcases List.mem_append.mp hb with w | w
      · exact (List.nodup_append.mp nd).2.2 _ w _ (List.mem_append_left _ (by simp)) rfl
      · exact (List.nodup_append.mp (List.nodup_append.mp nd).2.1).2.2 _ (by simp) _ w rfl
    have z := q3 Hs (upd H a (.lst xs')) (Same.refl _) (fun b hb => upd_ne (hn b hb)) (.own n) (.lst ds') (.ref a) [a] (.ownL h0 upd_same rp)
    have e1 : ks.set i (.own n) = ks := by
      obtain ⟨h, e2⟩ := List.getElem?_eq_some_iff.mp hk
      rw [← e2, List.set_getElem_self]
    have e3 : σ.set i (some (.ref a)) = σ := by
      obtain ⟨h, e2⟩ := List.getElem?_eq_some_iff.mp ev
      rw [← e2, List.set_getElem_self]
    rw [e1, e3] at z
    have dz := S.dis a ha
    refine ⟨_, z, nd, fun b hb => S.dis b (by rw [e]; exact hb), S.es, ⟨fun b u q nt => ?_⟩, ⟨fun b u q nt => ?_⟩, S.new, fun b q => ?_, fun P z => tab_mut h1 P (S.tb P z)⟩
    · have : b ≠ a := fun w => by rw [w, dz.1] at q; cases q
      rw [upd_ne this] at nt ⊢
      exact S.sub.k _ _ q nt
    · have : b ≠ a := fun w => by rw [w, dz.2] at q; cases q
      rw [upd_ne this] at nt ⊢
      exact S.eb.k _ _ q nt
    · have : b ≠ a := fun w => by rw [w, upd_same] at q; cases q
      rw [upd_ne this] at q
      exact S.dom _ q
/-- an owned value is frozen where it lies -/
theorem StRel.freeze {i : Nat} {k : Kd} (S : StRel E Hs H ks r σ) (hk : ks[i]? = some k) (hf : k = .own none) : ∃ Hs2, StRel E Hs2 H (ks.set i .val) r σ := by
  subst hf
  obtain ⟨As, S⟩ := S
  cases hr : r[i]? with
  | none =>
    have l := S.sl.len
    have hi : i < ks.length := (List.getElem?_eq_some_iff.mp hk).1
    have : r.length ≤ i := List.getElem?_eq_none_iff.mp hr
    omega
  | some o =>
    obtain ⟨pre, A, post, e, q1, q2, q4, q3⟩ := S.sl.at_ i hk
    have e5 : r.set i o = r := by
      obtain ⟨h, e2⟩ := List.getElem?_eq_some_iff.mp hr
      rw [← e2, List.set_getElem_self]
    cases o with
    | none =>
      have l := S.sl.len
      have hi : i < σ.length := by rw [l.2]; exact (List.getElem?_eq_some_iff.mp hk).1
      have z := q4 .val σ[i]
      rw [e5, List.set_getElem_self] at z
      have sub : (pre ++ post).Sublist As := by
        rw [e]
        exact List.Sublist.append (List.Sublist.refl _) (List.sublist_append_right _ _)
      exact ⟨Hs, _, z, S.nd.sublist sub, fun a ha => S.dis a (sub.subset ha), S.es, S.sub, S.eb, S.new, S.dom, S.tb⟩
    | some d =>
      obtain ⟨v, ev, o⟩ := q1 d hr
      have e3 : σ.set i (some v) = σ := by
        obtain ⟨h, e2⟩ := List.getElem?_eq_some_iff.mp ev
        rw [← e2, List.set_getElem_self]
      have nd := S.nd
      rw [e] at nd
      have nA : ∀ a ∈ A, E.h a = none := by
        cases o with
        | ownL h0 h1 h2 => intro a ha; simp at ha; subst ha; exact h0.1
        | ownK h0 h1 h2 => intro a ha; simp at ha; subst ha; exact h0.1
        | ownV h0 h1 => intro a ha; cases ha
      have inA : ∀ a ∈ A, a ∈ As := fun a ha => by rw [e]; exact List.mem_append_right _ (List.mem_append_left _ ha)
      have pS : Same Hs (plus Hs H A) := plus_same fun a ha => (S.dis a (inA a ha)).1
      have rp : Rep E.cl (plus Hs H A) d v := ORep.freeze pS _ _ _ _ rfl (fun a ha => by unfold plus; rw [if_pos ha]) o
      have z := q3 (plus Hs H A) H pS (fun _ _ => rfl) .val d v [] (.val rp)
      rw [e5, e3] at z
      have sub : (pre ++ ([] ++ post)).Sublist As := by
        rw [e]
        exact List.Sublist.append (List.Sublist.refl _) (by rw [List.nil_append]; exact List.sublist_append_right _ _)
      refine ⟨plus Hs H A, _, z, S.nd.sublist sub, fun a ha => ⟨?_, (S.dis a (sub.subset ha)).2⟩, S.es.trans pS, plus_sub S.sub, S.eb, fun a q => ?_, S.dom, S.tb⟩
      · have hn : a ∉ A := fun w => by
          rcases List.mem_append.mp ha with u | u
          · exact (List.nodup_append.mp nd).2.2 _ u _ (List.mem_append_left _ w) rfl
          · exact (List.nodup_append.mp (List.nodup_append.mp nd).2.1).2.2 _ w _ (by simpa using u) rfl
        unfold plus
        rw [if_neg hn]
        exact (S.dis a (sub.subset ha)).1
      · unfold plus at q
        split at q
        · rename_i w
          exact .inr (nA a w)
        · exact S.new a q
/-- another bound of what is stable -/
def En.at_ (E : En) (s : Hp) : En := { E with s := s }
theorem Slots.env {E E' : En} (h1 : E'.cl = E.cl) (h2 : E'.b = E.b) (h3 : E'.h = E.h) : ∀ {ks : List Kd} {r : Sl} {σ : L2.St} {As : List Addr}, Slots E Hs H ks r σ As → Slots E' Hs H ks r σ As
  | _, _, _, _, .nil => .nil
  | _, _, _, _, .skip h => .skip (Slots.env h1 h2 h3 h)
  | _, _, _, _, .cons o h => .cons (by unfold En.N at *; rw [h1, h2, h3]; exact o) (Slots.env h1 h2 h3 h)
theorem StRel.down (S : StRel E Hs H ks r σ) : StRel (E.at_ Hs) Hs H ks r σ := by
  obtain ⟨As, S⟩ := S
  exact ⟨As, Slots.env (E := E) (E' := E.at_ Hs) rfl rfl rfl S.sl, S.nd, S.dis, Same.refl _, S.sub, S.eb, fun a z => .inl z, S.dom, S.tb⟩
theorem StRel.up {Hs1 : Hp} (es : Same E.s Hs1) (nw : ∀ a, Hs1 a ≠ none → E.s a ≠ none ∨ E.h a = none) (S : StRel (E.at_ Hs1) Hs H ks r σ) : StRel E Hs H ks r σ := by
  obtain ⟨As, S⟩ := S
  refine ⟨As, Slots.env (E := E.at_ Hs1) (E' := E) rfl rfl rfl S.sl, S.nd, S.dis, es.trans S.es, S.sub, S.eb, fun a z => ?_, S.dom, S.tb⟩
  rcases S.new a z with q | q
  · exact nw a q
  · exact .inr q
theorem StRel.facts (S : StRel E Hs H ks r σ) : Same E.s Hs ∧ Same E.b H ∧ (∀ a, Hs a ≠ none → E.s a ≠ none ∨ E.h a = none) ∧ ∀ P, LamX.TabS E.h P lamQ → LamX.TabS H P lamQ := let ⟨_, s⟩ := S; ⟨s.es, s.eb, s.new, s.tb⟩
end

def PostS (E : En) (ks : List Kd) (kr : Kd) (fin : List Kd → Prop) (W : WX) (Dn : Ends) : O → Prop
  | .stuck => False
  | .nx r => ∀ Hs H σ, StRel E Hs H ks r σ → Dn.nx σ H
  | .rt d r => ∀ Hs H σ v ks2, fin ks2 → StRel E Hs H (kr :: ks2) (some d :: r) (some v :: σ) → Dn.rt v H
  | .exc x r => ∀ Hs H σ c dd ks2, fin ks2 → StRel E Hs H ks2 r σ → XRep E.cl Hs H x c dd → W c dd σ H
/-- .. kr what a return hands out, fin what is asked of the slots at the def's end -/
structure SS [md : Md] (X : Cx) (E : En) (kr : Kd) (fin : List Kd → Prop) (ks : List Kd) (st : Stmt) (m : Sl → O) (ks' : List Kd) : Prop where
  run : ∀ (Hs H : Hp) (r : Sl) (σ : L2.St) (W : WX) (Dn : Ends), Takes X W → StRel E Hs H ks r σ → PostS E ks' kr fin W Dn (m r) → WSx X st Dn σ H
structure SB [md : Md] (X : Cx) (E : En) (kr : Kd) (fin : List Kd → Prop) (ks : List Kd) (st : List Stmt) (m : Sl → O) (ks' : List Kd) : Prop where
  run : ∀ (Hs H : Hp) (r : Sl) (σ : L2.St) (W : WX) (Dn : Ends), Takes X W → StRel E Hs H ks r σ → PostS E ks' kr fin W Dn (m r) → WSs X st Dn σ H
@[simp] def mNil : Sl → O := .nx
@[simp] def mSeq (m1 m2 : Sl → O) : Sl → O := fun r => match m1 r with
  | .nx r' => m2 r'
  | o => o
/-- behind an expression -/
@[simp] def onR {α : Type} (x : R α) (r : Sl) (k : α → O) : O := match x with
  | .ok a => k a
  | .exc x => .exc x r
  | .stuck => .stuck
section
variable {X : Cx} {E : En} {kr : Kd} {fin : List Kd → Prop} {ks ks' ks1 ks2 : List Kd} {st : Stmt} {sts : List Stmt} {m m1 m2 : Sl → O} {e : Expr} {g : Sl → R D} {pos : Pos}
theorem sb_nil : SB X E kr fin ks [] mNil ks := ⟨fun Hs H r σ W Dn tk S P => wss_of pss_nil (P Hs H σ S)⟩
theorem sb_cons (h1 : SS X E kr fin ks st m1 ks1) (h2 : SB X E kr fin ks1 sts m2 ks2) : SB X E kr fin ks (st :: sts) (mSeq m1 m2) ks2 := by
  refine ⟨fun Hs H r σ W Dn tk S P => ?_⟩
  refine wss_of (pss_cons ps_ws pss_ws) ?_
  refine h1.run _ _ _ _ _ _ tk S ?_
  unfold mSeq at P
  cases q : m1 r with
  | stuck => rw [q] at P; exact P
  | nx r' =>
    rw [q] at P
    exact fun Hs' H' σ' S' => h2.run _ _ _ _ _ _ tk S' P
  | rt d r' => rw [q] at P; exact P
  | exc x r' => rw [q] at P; exact P
/-- what an expression asks within a statement -/
theorem Post.ofS {k : Kd} {Hs H : Hp} {r : Sl} {σ : L2.St} {W : WX} {Dn : Ends} {x : R D} {kk : D → O} {Q1 : VK} (hf : fin ks) (S : StRel E Hs H ks r σ) (P : PostS E ks' kr fin W Dn (onR x r kk))
    (h : ∀ d v Hs' H', x = .ok d → Grow Hs H Hs' H' → RK E.cl k H Hs' H' d v → PostS E ks' kr fin W Dn (kk d) → Q1 v H') : Post E.cl k Hs H Q1 (fun c dd H' => W c dd σ H') x := by
  cases x with
  | stuck => exact P
  | exc x => exact fun c dd Hs' H' g z => P Hs' H' σ c dd ks hf (S.grow g) z
  | ok d => exact fun v Hs' H' g rk => h d v Hs' H' rfl g rk P
@[simp] def mSet (i : Nat) (g : Sl → R D) : Sl → O := fun r => onR (g r) r fun d => .nx (r.set i (some d))
/-- x = e -/
theorem ss_set {i : Nat} {k k0 : Kd} {x : Str} {pos' : Pos} (hN : X.N.Nodup) (he : SE X E ks k e g) (hf : fin ks := by trivial) (hk : ks[i]? = some k0 := by rfl) (fk : k.fine = true := by rfl) (hi : X.N[i]? = some x := by rfl) (hx : Loc X.env.scope x := by first | exact Or.inl rfl | exact Or.inr rfl)
    (hs : swapsWith e (some (.Name x pos')) pos.line X.env = pure false := by rfl) (hfn : X.fn x = true ∨ X.env.scope.names.lookup x = some .local := by first | exact .inl rfl | exact .inr rfl | assumption) :
    SS X E kr fin ks (.Assign [.Name x pos'] e pos) (mSet i g) (ks.set i k) := by
  refine ⟨fun Hs H r σ W Dn tk S P => ?_⟩
  refine ws_of (ps_set hN hi hx pe_we hs hfn) ?_
  exact he.run _ _ _ _ _ _ tk S (Post.ofS hf S P fun d v Hs' H' e1 g1 k1 P1 => P1 Hs' H' _ (S.putK g1 hk fk k1))
/-- x = [..] on one line, x a local -/
theorem ss_setLc {i : Nat} {k0 : Kd} {y : Str} {py : Pos} {elt tg iter : Expr} {ifs : List Expr} {scope : Scope} {spos : Pos} {t : Tg} {gi : Sl → R (List D)} {tt : Sl → R Bool} {ge : Sl → R D}
    (own : List (Str × Nat)) (hc : X.calm = true) (hN : X.N.Nodup) (hi : SI X E ks false tg iter gi) (ok : BlkOk X.N X.env.scope scope own) (hv : ∀ i ∈ own.map (·.2), i < ks.length) (hm : ∀ i ∈ t.is, i ∈ own.map (·.2))
    (hg : ∀ (s : Shared) (H : Hp) (C : Addr) (cl : List (Str × Addr)) (fp : List Addr), SG (X.blk s H scope (compEnvC scope cl C X.env) fp) tg t)
    (ht : ∀ (s : Shared) (H : Hp) (C : Addr) (cl : List (Str × Addr)) (fp : List Addr), SP1 (X.blk s H scope (compEnvC scope cl C X.env) fp) E (setK (wipeK ks (own.map (·.2))) t.is) ifs tt)
    (he : ∀ (s : Shared) (H : Hp) (C : Addr) (cl : List (Str × Addr)) (fp : List Addr), SE (X.blk s H scope (compEnvC scope cl C X.env) fp) E (setK (wipeK ks (own.map (·.2))) t.is) .val elt ge)
    (hsw : swapsWith (.ListComp elt [⟨tg, iter, ifs, 0⟩] scope pos) (some (.Name y py)) spos.line X.env = pure true) (hf : fin ks := by trivial) (hk : ks[i]? = some k0 := by rfl) (hy : X.N[i]? = some y := by rfl) (hyl : X.env.scope.names.lookup y = some .local := by rfl)
    (hs : ∀ x, foldedSetIterable iter X.env x = pure x := by intro _; rfl) :
    SS X E kr fin ks (.Assign [.Name y py] (.ListComp elt [⟨tg, iter, ifs, 0⟩] scope pos) spos) (mSet i (gComp gi t (own.map (·.2)) tt ge)) (ks.set i (.own none)) := by
  refine ⟨fun Hs H r σ W Dn tk S P => ?_⟩
  refine ws_of (ps_setLc (i := i) hc hN hy hyl hsw pi_wi ok pg_rd pts_rd pe_rd hs) ?_
  exact comp_read hi hv hm hg ht he tk S (Post.ofS (k := .own none) hf S P fun d v Hs' H' e1 g1 k1 P1 => P1 Hs' H' _ (S.putK g1 hk rfl k1))
@[simp] def mRet (g : Sl → R D) : Sl → O := fun r => onR (g r) r fun d => .rt d r
theorem ss_ret (he : SE X E ks kr e g) (hf : fin ks := by trivial) (fk : kr.fine = true := by rfl) : SS X E kr fin ks (.Return (some e) pos) (mRet g) ks' := by
  refine ⟨fun Hs H r σ W Dn tk S P => ?_⟩
  refine ws_of (ps_ret pe_we) ?_
  exact he.run _ _ _ _ _ _ tk S (Post.ofS hf S P fun d v Hs' H' e1 g1 k1 P1 => P1 Hs' H' σ v ks hf (S.push g1 fk k1))
@[simp] def mRetV (i : Nat) : Sl → O := fun r => match r[i]? with
  | some (some d) => .rt d (r.set i none)
  | _ => .stuck
theorem ss_retV {i : Nat} {x : Str} {pos' : Pos} (hf : fin ks := by trivial) (hk : ks[i]? = some kr := by rfl) (hN : X.N[i]? = some x := by rfl) (hv : Vis X.env.scope x := by first | exact Or.inl rfl | exact Or.inr (Or.inl rfl) | exact Or.inr (Or.inr rfl))
    (hq : NmOk x) : SS X E kr fin ks (.Return (some (.Name x pos')) pos) (mRetV i) ks' := by
  refine ⟨fun Hs H r σ W Dn tk S P => ?_⟩
  refine ws_of (ps_ret (pe_var hN hv hq.1 hq.2)) ?_
  unfold mRetV at P
  split at P
  · rename_i d q
    obtain ⟨v, ev, S2⟩ := S.take hk q
    exact ⟨v, ev, P Hs H σ v ks hf S2⟩
  · exact P.elim
@[simp] def mExpr (g : Sl → R D) : Sl → O := fun r => onR (g r) r fun _ => .nx r
theorem ss_expr (he : SE X E ks .val e g) (hf : fin ks := by trivial) (hs : swapsWith e none pos.line X.env = pure false := by rfl) : SS X E kr fin ks (.Expr e pos) (mExpr g) ks := by
  refine ⟨fun Hs H r σ W Dn tk S P => ?_⟩
  refine ws_of (ps_expr pe_we hs) ?_
  exact he.run _ _ _ _ _ _ tk S (Post.ofS hf S P fun d v Hs' H' e1 g1 k1 P1 => P1 Hs' H' σ (S.grow g1))
@[simp] def mIf (tc : Sl → R Bool) (m1 m2 : Sl → O) : Sl → O := fun r => onR (tc r) r fun b => if b then m1 r else m2 r
theorem PostT.ofS {Hs H : Hp} {r : Sl} {σ : L2.St} {W : WX} {Dn : Ends} {x : R Bool} {kk : Bool → O} {Q1 : Bool → Hp → Prop} (hf : fin ks) (S : StRel E Hs H ks r σ) (P : PostS E ks' kr fin W Dn (onR x r kk))
    (h : ∀ b Hs' H', x = .ok b → Grow Hs H Hs' H' → PostS E ks' kr fin W Dn (kk b) → Q1 b H') : PostT E.cl Hs H Q1 (fun c dd H' => W c dd σ H') x := by
  cases x with
  | stuck => exact P
  | exc x => exact fun c dd Hs' H' g z => P Hs' H' σ c dd ks hf (S.grow g) z
  | ok d => exact fun Hs' H' g => h d Hs' H' rfl g P
theorem ss_if {c : Expr} {a b : List Stmt} {tc : Sl → R Bool} (hc : ST X E ks c tc) (ha : SB X E kr fin ks a m1 ks') (hb : SB X E kr fin ks b m2 ks') (hf : fin ks := by trivial) : SS X E kr fin ks (.If c a b pos) (mIf tc m1 m2) ks' := by
  refine ⟨fun Hs H r σ W Dn tk S P => ?_⟩
  refine ws_of (ps_if pt_wt pss_ws pss_ws) ?_
  refine hc.run _ _ _ _ _ _ tk S (PostT.ofS hf S P fun x Hs' H' e1 g1 P1 => ?_)
  cases x with
  | true => exact iteT (ha.run _ _ _ _ _ _ tk (S.grow g1) P1)
  | false => exact iteF (hb.run _ _ _ _ _ _ tk (S.grow g1) P1)
def forL (t : Tg) (mb : Sl → O) : List D → Sl → O
  | [], r => .nx r
  | d :: ds, r => match t.un d with
    | .ok xs => (match mb (setD r t.is xs) with
      | .nx r' => forL t mb ds r'
      | o => o)
    | _ => .stuck
@[simp] def mFor (gi : Sl → R (List D)) (t : Tg) (mb : Sl → O) : Sl → O := fun r => onR (gi r) r fun ds => forL t mb ds r
theorem PostI.ofS {md : Bool} {Hs H : Hp} {r : Sl} {σ : L2.St} {W : WX} {Dn : Ends} {x : R (List D)} {kk : List D → O} {Q1 : It → Hp → Prop} (hf : fin ks) (S : StRel E Hs H ks r σ) (P : PostS E ks' kr fin W Dn (onR x r kk))
    (h : ∀ ds J Hs' H', x = .ok ds → Grow Hs H Hs' H' → ItOk E.cl J ds Hs' (bq E md H') → PostS E ks' kr fin W Dn (kk ds) → Q1 J H') : PostI E md Hs H Q1 (fun c dd H' => W c dd σ H') x := by
  cases x with
  | stuck => exact P
  | exc x => exact fun c dd Hs' H' g z => P Hs' H' σ c dd ks hf (S.grow g) z
  | ok d => exact fun J Hs' H' g i => h d J Hs' H' rfl g i P
theorem ss_for {tg iter : Expr} {body : List Stmt} {gi : Sl → R (List D)} {t : Tg} {mb : Sl → O} (hp : PassesOwn (model X.prog X.w) X.A X.env X.xe) (hc : X.calm = true) (hi : SI X E ks true tg iter gi) (hg : SG X tg t)
    (hb : ∀ s, SB X (E.at_ s) kr fin ks body mb ks) (hl : ∀ i ∈ t.is, i < ks.length) (hk : setK ks t.is = ks := by rfl) (hf : fin ks := by trivial)
    (hs : ∀ x, foldedSetIterable iter X.env x = pure x := by intro _; rfl) : SS X E kr fin ks (.For tg iter body [] pos) (mFor gi t mb) ks := by
  refine ⟨fun Hs H r σ W Dn tk S P => ?_⟩
  refine ws_of (ps_for hp hc pi_wi pg_wg pss_ws hs) ?_
  refine hi.run _ _ _ _ _ _ tk S (PostI.ofS hf S P fun ds J Hs1 H1 e1 g1 J1 P1 => ?_)
  have S1 := S.grow g1
  have F1 := S1.facts
  have D1 := S1.down
  refine ⟨fun i m σ' H' => m = ds.length - i ∧ i ≤ ds.length ∧ ∃ Hs' r', StRel (E.at_ Hs1) Hs' H' ks r' σ' ∧ PostS E ks kr fin W Dn (forL t mb (ds.drop i) r'),
    ⟨ds.length, by simp, Nat.zero_le _, Hs1, r, D1, P1⟩, ?_⟩
  rintro i m σ' H' ⟨rfl, hi', Hs', r', S', P'⟩
  have fs := S'.facts
  by_cases hlt : i < ds.length
  · refine .inr ⟨J1.go Hs' H' fs.1 S'.sub fs.2.1 i hlt, fun σ2 H2 => ∃ Hs2 r2, StRel (E.at_ Hs1) Hs2 H2 ks r2 σ2 ∧ PostS E ks kr fin W Dn (forL t mb (ds.drop (i + 1)) r2), ?_, ?_⟩
    · rintro σ2 H2 ⟨Hs2, r2, z1, z2⟩
      exact ⟨ds.length - (i + 1), by omega, rfl, hlt, Hs2, r2, z1, z2⟩
    · intro x H2 y
      have hd : ds[i]? = some ds[i] := by simp [hlt]
      obtain ⟨Hs2, g3, rx⟩ := J1.yld Hs' H' fs.1 S'.sub fs.2.1 i _ x H2 hd y
      rw [List.drop_eq_getElem_cons hlt] at P'
      dsimp only [forL] at P'
      cases q : t.un ds[i] with
      | stuck => rw [q] at P'; exact P'.elim
      | exc z => rw [q] at P'; exact P'.elim
      | ok xs =>
        rw [q] at P'
        dsimp only at P'
        refine hg.run E.cl Hs2 H2 _ _ x xs _ g3.sub rx q fun ys ry => ?_
        have S3 : StRel (E.at_ Hs1) Hs2 H2 (setK ks t.is) (setD r' t.is xs) (setV σ' t.is ys) := StRel.puts (S'.grow g3) hl (Tg.un_len q) ry
        rw [hk] at S3
        refine (hb Hs1).run _ _ _ _ W _ tk S3 ?_
        cases q2 : mb (setD r' t.is xs) with
        | stuck => rw [q2] at P'; exact P'
        | nx r2 =>
          rw [q2] at P'
          exact fun Hs4 H4 σ4 S4 => ⟨Hs4, r2, S4, P'⟩
        | rt d r2 =>
          rw [q2] at P'
          exact fun Hs4 H4 σ4 v ks2 z S4 => P' Hs4 H4 σ4 v ks2 z (S4.up F1.1 F1.2.2.1)
        | exc z r2 =>
          rw [q2] at P'
          exact fun Hs4 H4 σ4 c dd ks2 w S4 xr => P' Hs4 H4 σ4 c dd ks2 w (S4.up F1.1 F1.2.2.1) xr
  · have e : i = ds.length := by omega
    subst e
    rw [List.drop_length] at P'
    exact .inl ⟨J1.stop Hs' H' fs.1 S'.sub fs.2.1, P' Hs' H' σ' (S'.up F1.1 F1.2.2.1)⟩
def whileL (tc : Sl → R Bool) (mb : Sl → O) : Nat → Sl → O
  | 0, _ => .stuck
  | n + 1, r => onR (tc r) r fun b => if b then (match mb r with
    | .nx r' => whileL tc mb n r'
    | o => o) else .nx r
theorem ss_while {c : Expr} {body : List Stmt} {tc : Sl → R Bool} {mb : Sl → O} (n : Nat) (hp : PassesOwn (model X.prog X.w) X.A X.env X.xe) (hc : ST X E ks c tc) (hb : SB X E kr fin ks body mb ks) (hf : fin ks := by trivial) :
    SS X E kr fin ks (.While c body [] pos) (whileL tc mb n) ks := by
  refine ⟨fun Hs H r σ W Dn tk S P => ?_⟩
  refine ws_of (ps_while hp pt_wt pss_ws) ?_
  refine ⟨fun m σ' H' => ∃ Hs' r', StRel E Hs' H' ks r' σ' ∧ PostS E ks kr fin W Dn (whileL tc mb m r'), ⟨n, Hs, r, S, P⟩, ?_⟩
  rintro m σ' H' ⟨Hs', r', S', P'⟩
  cases m with
  | zero => exact P'.elim
  | succ m =>
    dsimp only [whileL] at P'
    refine hc.run _ _ _ _ _ _ tk S' (PostT.ofS hf S' P' fun x Hs2 H2 e1 g1 P1 => ?_)
    cases x with
    | false => exact iteF (P1 Hs2 H2 σ' (S'.grow g1))
    | true =>
      refine iteT ⟨fun σ3 H3 => ∃ Hs3 r3, StRel E Hs3 H3 ks r3 σ3 ∧ PostS E ks kr fin W Dn (whileL tc mb m r3), fun σ3 H3 ⟨Hs3, r3, z1, z2⟩ => ⟨m, Nat.lt_succ_self m, Hs3, r3, z1, z2⟩, ?_⟩
      refine hb.run _ _ _ _ W _ tk (S'.grow g1) ?_
      rw [if_pos rfl] at P1
      cases q2 : mb r' with
      | stuck => rw [q2] at P1; exact P1
      | nx r2 =>
        rw [q2] at P1
        exact fun Hs4 H4 σ4 S4 => ⟨Hs4, r2, S4, P1⟩
      | rt d r2 => rw [q2] at P1; exact P1
      | exc z r2 => rw [q2] at P1; exact P1
end
end VL
end

noncomputable section
namespace VL
open PySem PySem.Spec PyProof.Rows L2
variable {md : Md}

section
variable {X : Cx} {E : En} {kr : Kd} {fin : List Kd → Prop} {ks ks' : List Kd} {e : Expr} {g : Sl → R D} {pos : Pos}
theorem tyV_lst {K : PySem.W.Frag} {H : Hp} {a : Addr} {xs : List V} (h : H a = some (.lst xs)) : tyV K "list" (.ref a) H := .inl ⟨rfl, xs, SqL.of h⟩
@[simp] def mApp (i : Nat) (g : Sl → R D) : Sl → O := fun r => match r[i]? with
  | some (some (.lst ds)) => onR (g r) r fun d => if ds.length < szL then .nx (r.set i (some (.lst (ds ++ [d])))) else .stuck
  | _ => .stuck
/-- x.append(e) -/
theorem ss_append {i : Nat} {n : Option Addr} {x : Str} {p1 p2 p3 : Pos} (he : SE X E ks .val e g) (hf : fin ks := by trivial) (hk : ks[i]? = some (.own n) := by rfl) (hN : X.N[i]? = some x := by rfl) (hv : Vis X.env.scope x := by first | exact Or.inl rfl | exact Or.inr (Or.inl rfl) | exact Or.inr (Or.inr rfl))
    (hq : NmOk x)
    (hs : swapsWith (.Call (.Attribute (.Name x p1) "append" p2) [e] [] p3) none pos.line X.env = pure false := by rfl)
    (hbase : attributeBase (.Name x p1) "append" X.env (eval (.Name x p1) X.env) = eval (.Name x p1) X.env := by rfl)
    (hfew : ((backTo p3 (starEach [e] X.env)).all (fun x => !x.1) && (backToKw p3 (keywordEach [] X.env)).all (fun x => x.1.isSome)
      && decide ([e].length + ([] : List Keyword).length + (if ([] : List Keyword).isEmpty then 0 else 1) < 30)) = true := by rfl)
    (hline : (p2.endLine == p3.line) = true := by rfl) (hst : starEach [e] X.env = (false, eval e X.env) :: starEach [] X.env := by rfl) (hplain : (backTo p3 (starEach [] X.env)).any (·.1) = false := by rfl) :
    SS X E kr fin ks (.Expr (.Call (.Attribute (.Name x p1) "append" p2) [e] [] p3) pos) (mApp i g) ks := by
  refine ⟨fun Hs H r σ W Dn tk S P => ?_⟩
  refine ws_of (ps_expr (pe_bm PySem.F.plainAttrs_list PySem.F.slot_list_append PySem.F.type_list_append mt_append (pe_var hN hv hq.1 hq.2) (pa_cons pe_we pa_nil hst) hbase hfew hline hst hplain) hs) ?_
  unfold mApp at P
  split at P
  · rename_i ds q
    obtain ⟨a, xs, ea, h1, r1, _⟩ := S.mutL hk q
    refine ⟨.ref a, ea, tyV_lst h1, ?_⟩
    refine he.run _ _ _ _ _ _ tk S (Post.ofS hf S P fun d v Hs' H' e1 g1 k1 P1 => ?_)
    obtain ⟨a', xs', ea', h2, r2, up⟩ := (S.grow g1).mutL hk q
    rw [ea] at ea'
    cases ea'
    split at P1
    · rename_i hz
      exact ⟨a, xs', v, rfl, rfl, h2, by rw [szL_eq, r2.length]; exact hz, P1 _ _ _ (up _ _ (r2.app (.cons k1.rep .nil)))⟩
    · exact P1.elim
  · exact P.elim
@[simp] def mSetI (i : Nat) (gi g : Sl → R D) : Sl → O := fun r => match r[i]? with
  | some (some (.lst ds)) => onR (g r) r fun d => onR (noX (gi r)) r fun z => (match z with
    | .int k => (match ixN ds.length k with
      | some j => .nx (r.set i (some (.lst (ds.set j d))))
      | none => .stuck)
    | _ => .stuck)
  | _ => .stuck
/-- x[b] = e -/
theorem ss_setI {i : Nat} {n : Option Addr} {x : Str} {b : Expr} {gb : Sl → R D} {p1 p2 : Pos} (hb : SE X E ks .bor b gb) (he : SE X E ks .val e g) (hf : fin ks := by trivial) (hk : ks[i]? = some (.own n) := by rfl) (hN : X.N[i]? = some x := by rfl) (hv : Vis X.env.scope x := by first | exact Or.inl rfl | exact Or.inr (Or.inl rfl) | exact Or.inr (Or.inr rfl))
    (hq : NmOk x)
    (hs : swapsWithSole [.Subscript (.Name x p1) b p2] e pos.line X.env = pure false := by rfl) (hw : swappedStores [.Subscript (.Name x p1) b p2] e X.env = pure none := by rfl)
    (h1 : (assignEach [.Subscript (.Name x p1) b p2] X.env).map (·.2) = [assign (.Subscript (.Name x p1) b p2) X.env] := by rfl)
    (ha : ∀ v, assign (.Subscript (.Name x p1) b p2) X.env v = (do
      let ov ← holding [v] (eval (.Name x p1) X.env)
      let iv ← holding [v, ov] (eval b X.env)
      standAt p2
      holding [v, ov, iv] (setItem ov iv v)
      release [v, ov, iv] []) := by intro _; rfl) :
    SS X E kr fin ks (.Assign [.Subscript (.Name x p1) b p2] e pos) (mSetI i gb g) ks := by
  refine ⟨fun Hs H r σ W Dn tk S P => ?_⟩
  refine ws_of (ps_asg pe_we (pg_sub (pe_var hN hv hq.1 hq.2) pe_we set_list ha) hs hw h1) ?_
  unfold mSetI at P
  split at P
  · rename_i ds q
    refine he.run _ _ _ _ _ _ tk S (Post.ofS hf S P fun d v Hs' H' e1 g1 k1 P1 => ?_)
    have S1 := S.grow g1
    obtain ⟨a, xs, ea, h1, r1, _⟩ := S1.mutL hk q
    refine ⟨.ref a, ea, ?_⟩
    refine hb.run _ _ _ _ _ _ tk S1 ?_
    cases q1 : gb r with
    | stuck => rw [q1] at P1; exact P1.elim
    | exc z => rw [q1] at P1; exact P1.elim
    | ok z =>
      rw [q1] at P1
      dsimp only [onR, noX] at P1
      intro v2 Hs2 H2 g2 k2
      cases z <;> first | exact P1.elim | skip
      rename_i k
      cases k2.rb.intInv
      obtain ⟨a', xs', ea', h3, r3, up⟩ := (S1.grow g2).mutL hk q
      rw [ea] at ea'
      cases ea'
      cases q3 : ixN ds.length k with
      | none => simp only [q3] at P1; exact P1.elim
      | some j =>
        simp only [q3] at P1
        exact ⟨a, xs', k, j, rfl, rfl, h3, by rw [r3.length]; exact q3, P1 _ _ _ (up _ _ (r3.set j (Rep.same g2.s _ _ k1.rep)))⟩
  · exact P.elim
/-- x += e, an owned list -/
@[simp] def mExt (i : Nat) (g : Sl → R D) : Sl → O := fun r => match r[i]? with
  | some (some (.lst ds)) => onR (g r) r fun d => (match d with
    | .lst es => if ds.length + es.length ≤ szL then .nx (r.set i (some (.lst (ds ++ es)))) else .stuck
    | _ => .stuck)
  | _ => .stuck
theorem pip_of {op : Operator} {t : R2} (h : OpR X (inplaceOp op) t) : PIp X op t := fun pins s σ H x y v u Q I rx ry q => h pins s σ H x y v u Q I rx ry q
theorem ss_ext {i : Nat} {n : Option Addr} {x : Str} {p1 : Pos} (hN : X.N.Nodup) (he : SE X E ks .val e g) (hf : fin ks := by trivial) (hk : ks[i]? = some (.own n) := by rfl)
    (hi : X.N[i]? = some x := by rfl) (hx : Loc X.env.scope x := by first | exact Or.inl rfl | exact Or.inr rfl) (hfn : X.fn x = true ∨ X.env.scope.names.lookup x = some .local := by first | exact .inl rfl | exact .inr rfl | assumption) :
    SS X E kr fin ks (.AugAssign (.Name x p1) .Add e pos) (mExt i g) ks := by
  refine ⟨fun Hs H r σ W Dn tk S P => ?_⟩
  refine ws_of (ps_aug (i := i) hN hi hx pe_we (pip_of iop_ext) hfn) ?_
  unfold mExt at P
  split at P
  · rename_i ds q
    obtain ⟨a, xs, ea, h1, r1, _⟩ := S.mutL hk q
    refine ⟨.ref a, ea, ?_⟩
    refine he.run _ _ _ _ _ _ tk S (Post.ofS hf S P fun d v Hs' H' e1 g1 k1 P1 => ?_)
    obtain ⟨a', xs', ea', h2, r2, up⟩ := (S.grow g1).mutL hk q
    rw [ea] at ea'
    cases ea'
    cases d <;> first | exact P1.elim | skip
    rename_i es
    dsimp only at P1
    split at P1
    · rename_i hz
      have kr1 := k1.rep
      cases kr1 with
      | lst h3 r3 =>
        have eσ : σ.set i (some (.ref a)) = σ := by
          obtain ⟨h, e2⟩ := List.getElem?_eq_some_iff.mp ea
          rw [← e2, List.set_getElem_self]
        refine ⟨a, _, xs', _, rfl, rfl, h2, g1.sub.at _ _ h3, by rw [szL_eq, r2.length, r3.length]; exact hz, ?_⟩
        show Dn.nx (σ.set i (some (.ref a))) _
        rw [eσ]
        exact P1 _ _ _ (up _ _ (r2.app r3))
    · exact P1.elim
  · exact P.elim
end

theorem fun_okM {P : Program} {w : World} {K : PySem.W.Frag} {mg : Str → Option Value} {base : Heap} {x qual : Str} {st : Stmt} {f : Addr} {fd : FuncData} {N ps : List Str} {k : Nat} {sp : Sp} (F : Fun K x qual st f fd) (S : FnScope N ps (defScope st)) (len : ∀ vs H Q E, sp vs H Q E → vs.length = ps.length)
    (hbody : ∀ (cdv : Value) (A : Around) (outer : List Env) (s : Shared) (H : Hp) (vs : List V) (Q : VK) (E : XK), Room k (A.deeper (envOfC qual (defScope st) s.heap.objs.size f cdv)) → sp vs H Q E →
      ∃ t, PSs (cxOf (CXM P w) P w K mg base N qual (defScope st) f cdv A outer s H E) (defBody st) t ∧ t { nx := fun _ H' => Q .non H', rt := Q } (start N vs) H) : FnOk P w K mg base (CXM P w) (k + 1) f fd ps sp := by
  obtain ⟨oc, od, kV, doc, pm, an, cdv, ct, osl, rfl, lk, hcd⟩ := F.ex
  exact fn_of lk hcd S len fun A outer s H vs Q E hr hsp => hbody cdv A outer s H vs Q E hr hsp

theorem ps_raiseM {X : Cx} {W : WX} {e : Expr} {t : L2.St → Hp → XK → Prop} {pos : Pos} (hc : X.calm = true) (tk : Takes X W) (hz : L2.PMk X e t) (hn : L2N.PMk X e t) : PS X (.Raise (some e) none pos) (fun _ σ H => t σ H fun cls d H' => W cls d σ H') := by
  obtain ⟨n⟩ := md
  cases n
  · exact L2.ps_raise hc tk hz
  · exact L2N.ps_raise hc tk hn
/-- C(e, ..), its context None -/
theorem pmk_oexN {X : Cx} {e : Expr} {es : List Expr} {ta : TA} {p pos : Pos} {CX : CXT} {x : Str} {C fI : Addr} {k : Nat} {fd : FuncData} {ps : List Str} {sp : Sp} (T : OexC X.K C) (iC : PySem.W.findIn X.K (.ref C) "__init__" = some (some (.ref fI))) (tI : PySem.W.typeIn X.K (.ref fI) = some (.type "function"))
    (F1 : FnOk X.prog X.w X.K X.mg X.base CX k fI fd ps sp) (hr : Room (k + 1) X.A) (hb : Binds X.K fd ps []) (hx : Passes CX X (fun _ _ _ => False)) (hg : Gl X x) (hm : X.mg x = some (.ref C)) (ha : PA X (e :: es) ta)
    (hdb : (x == ("__debug__" : Str)) = false := by decide) (he : starEach (e :: es) X.env = (false, eval e X.env) :: starEach es X.env := by rfl) (hpl : (backTo pos (starEach es X.env)).any (·.1) = false := by rfl) :
    L2N.PMk X (.Call (.Name x p) (e :: es) [] pos) (tMkO C sp [] ta) := by
  intro pins s σ H Q I h
  obtain ⟨nm, q, N, bs, bm, sn, sub, ab, col, dd, k0, k1, k2, k3, k5, hC, hbm⟩ := T.cls
  refine wpAny_Call_Name_kw (ld_glob I hg hm ?_ hdb)
  refine PySem.W.callWith_K (h₀ := X.base) I.ok.mod.kin T.kC (thn (ha.run pos pins s σ H _ I h) fun us s1 ⟨vs, H1, I1, rv, hz, want⟩ => ⟨I1.kIn, ?_⟩) he hpl
  show wpAny _ _ (call (.ref C) us) _ _ _
  obtain ⟨hp, g, dr, tk, os⟩ := s1
  have lesz : hp.objs.size ≤ hp.objs.size + 1 := Nat.le_succ _
  have new1 : H1 (hp.objs.size + 1) = none := I1.hok.fresh lesz
  have hq := want (hp.objs.size + 1) new1
  rw [List.append_nil] at hq
  have keeps : ∀ b o, hp.get? b = some o → ((hp.push (PySem.W.kdv_tup us)).push (PySem.HandSPX.excO C hp.objs.size)).get? b = some o := fun b o e => Heap.get?_push_of_some _ (Heap.get?_push_of_some _ e)
  have there : ((hp.push (PySem.W.kdv_tup us)).push (PySem.HandSPX.excO C hp.objs.size)).get? (hp.objs.size + 1) = some (PySem.HandSPX.excO C hp.objs.size) := by heap_get
  have I2 : Inv X pins σ (upd H1 (hp.objs.size + 1) (exo (hp.objs.size + 1) C none)) ⟨(hp.push (PySem.W.kdv_tup us)).push (PySem.HandSPX.excO C hp.objs.size), g, dr, tk, os⟩ :=
    I1.laid (t' := tk) (a := hp.objs.size + 1) (o := exo (hp.objs.size + 1) C none) (h' := (hp.push (PySem.W.kdv_tup us)).push (PySem.HandSPX.excO C hp.objs.size)) keeps lesz (exo_ok there)
  have rv2 : Vals (V.ref (hp.objs.size + 1) :: vs) (Value.ref (hp.objs.size + 1) :: us) := .cons rfl rv
  have len2 : (Value.ref (hp.objs.size + 1) :: us ++ []).length = ps.length := by
    have e := rv2.length
    rw [F1.len _ _ _ _ hq] at e
    rw [List.append_nil]
    exact e.symm
  have short : us.length ≤ sizeLine := by
    rw [← Paired.length rv, sizeLine_eq]
    omega
  have bound := hb _ (Value.ref (hp.objs.size + 1) :: us) I2.kIn len2
  rw [List.append_nil] at bound
  refine wpAny_call (PySem.HandSPX.call_own F.excBase_ValueError (fun Y => PySem.HandSPX.refsVE_contains Y bm hbm) (I1.kIn _ _ hC) (PySem.W.looks_findIn I1.kIn iC) (fun self => PySem.W.bind_fn I1.kIn self tI) short
    (codeAny_mono (F1.run _ X.stack _ _ ⟨Value.ref (hp.objs.size + 1) :: us, []⟩ (Value.ref (hp.objs.size + 1) :: us) _ _ (fun _ _ _ => False) (hr.make C us []) (I2.env0.make C us []) bound rv2 hq) fun r s' ended => ?_))
  cases r with
  | error er => exact hx pins σ _ _ er s' I2 ended
  | ok fl =>
    cases fl with
    | next => exact ended.elim
    | brk => exact ended.elim
    | cont => exact ended.elim
    | ret u =>
      obtain ⟨v, H2, os2, bare2, un2, hok2, ru, ev, d, fs, ea, ed, hd1, q2⟩ := ended
      subst ev
      obtain ⟨h2, g2, d2, t2, os'⟩ := s'
      obtain ⟨t0, G, J, kG, ge, hoe, na⟩ := mk_end0 (d2 := d2) (t2 := t2) I1 lesz keeps un2 hok2 os2 bare2 ea ed hd1
      refine ⟨ru, ⟨hp.objs.size + 1, _, _, ⟨G, g2, d2, t2, os'⟩, _, .ref C, some d, rfl, J, kG, ge, hoe, ⟨rfl, rfl, fun vs hv => ?_⟩, rfl, rfl, na, rfl, bare2, raises_own T.exC T.tyC, q2⟩⟩
      cases hv
      rfl

section
variable {X : Cx} {E : En} {kr : Kd} {fin : List Kd → Prop} {ks ks' : List Kd} {e : Expr} {g : Sl → R D} {pos : Pos}
@[simp] def mRaise (C : Str) : Sl → O := fun r => .exc ⟨C, none⟩ r
/-- what is known of an own class without __init__ -/
structure XPlain (K : PySem.W.Frag) (mg : Str → Option Value) (cl : Cl) (C : Str) : Prop where
  ex : ∃ a, cl.f C = some a ∧ mg C = some (.ref a) ∧ PySem.W.excIn K a [.type "ValueError", .type "Exception", .type "BaseException", .type "object"] "ValueError.__new__" = true ∧ PySem.W.keepIn K (.ref a) = true ∧
    PySem.W.subIn K (.ref a) (.type "BaseException") = some true ∧ PySem.W.typeIn K (.ref a) = some (.type "type")
theorem ss_raise {C m : Str} {j : Nat} {p1 p2 p3 : Pos} (hc : X.calm = true) (T : XPlain X.K X.mg E.cl C) (hq : NmOk C) (hg : Gl X C := by rfl) (hf : fin ks := by trivial) :
    SS X E kr fin ks (.Raise (some (.Call (.Name C p1) [.Constant (.str m) j p2] [] p3)) none pos) (mRaise C) ks' := by
  refine ⟨fun Hs H r σ W Dn tk S P => ?_⟩
  obtain ⟨a, h1, h2, h3, h4, h5, h6⟩ := T.ex
  exact ws_of (ps_raiseM hc tk (L2.pmk_own PySem.F.excBase_ValueError h3 h2 h4 (raises_own h5 h6) hg hq.1) (L2N.pmk_own PySem.F.excBase_ValueError h3 h2 h4 (raises_own h5 h6) hg hq.1)) (P Hs H σ _ _ ks hf S ⟨a, h1, rfl, rfl⟩)
/-- an own class whose __init__ stores its one argument in the field «at» -/
structure XAt (P : Program) (w : World) (K : PySem.W.Frag) (mg : Str → Option Value) (base : Heap) (cl : Cl) (C : Str) (k : Nat) : Prop where
  ex : ∃ a fI fd ps, cl.f C = some a ∧ mg C = some (.ref a) ∧ OexC K a ∧ PySem.W.findIn K (.ref a) "__init__" = some (some (.ref fI)) ∧ PySem.W.typeIn K (.ref fI) = some (.type "function") ∧ Binds K fd ps [] ∧
    FnOk P w K mg base CX0 k fI fd ps (fun vs H Q _ => ∃ x v, vs = [.ref x, v] ∧ H x = some (exo x a none) ∧ ∀ dx, H dx = none → dx ≠ x → Q .non (upd (upd H x (exo x a (some dx))) dx (exd dx [("at", v)])))
@[simp] def mRaiseAt (C : Str) (g : Sl → R D) : Sl → O := fun r => onR (g r) r fun d => .exc ⟨C, some d⟩ r
theorem ss_raiseAt {C : Str} {k : Nat} {p1 p3 : Pos} (hc : X.calm = true) (T : XAt X.prog X.w X.K X.mg X.base E.cl C k) (hr : Room (k + 1) X.A) (he : SE X E ks .val e g) (hq : NmOk C) (hg : Gl X C := by rfl) (hf : fin ks := by trivial)
    (hst : starEach (e :: []) X.env = (false, eval e X.env) :: starEach [] X.env := by rfl) (hpl : (backTo p3 (starEach [] X.env)).any (·.1) = false := by rfl) :
    SS X E kr fin ks (.Raise (some (.Call (.Name C p1) [e] [] p3)) none pos) (mRaiseAt C g) ks' := by
  refine ⟨fun Hs H r σ W Dn tk S P => ?_⟩
  obtain ⟨a, fI, fd, ps, h1, h2, h3, h4, h5, h6, h7⟩ := T.ex
  refine ws_of (ps_raiseM hc tk (pmk_oex h3 h4 h5 h7 hr h6 .nil pass0 hg h2 pa_wa hq.1 hst hpl) (pmk_oexN h3 h4 h5 h7 hr h6 pass0 hg h2 pa_wa hq.1 hst hpl)) ?_
  refine wa_one (he.run _ _ _ _ _ _ tk S (Post.ofS hf S P fun d v Hs' H' e1 g1 k1 P1 => ?_)) hst
  refine ⟨by show 1 ≤ 1000; decide, fun x hx => ⟨x, v, rfl, upd_same, fun dx hd ne => ⟨rfl, dx, [("at", v)], ?_, upd_same, ?_, ?_⟩⟩⟩
  · rw [upd_ne ne.symm, upd_same]
  · rw [upd_ne ne] at hd
    exact hd
  · have hd' : H' dx = none := by
      rw [upd_ne ne] at hd
      exact hd
    have eq : upd (del (upd (upd (upd H' x (exo x a none)) x (exo x a (some dx))) dx (exd dx [("at", v)])) x) dx (.xd [("at", v)]) = upd H' dx (.xd [("at", v)]) := by
      funext b
      by_cases hb : b = dx
      · rw [hb, upd_same, upd_same]
      · rw [upd_ne hb, upd_ne hb]
        by_cases hx2 : b = x
        · rw [hx2, del_same, hx]
        · rw [del_ne hx2, upd_ne hb, upd_ne hx2, upd_ne hx2]
    rw [eq]
    have g2 := Grow.new g1.sub (o := .xd [("at", v)]) hd'
    exact P1 _ _ σ _ _ ks hf ((S.grow g1).grow g2) ⟨a, h1, rfl, dx, v, rfl, upd_same, Rep.same g2.s _ _ k1.rep⟩
end

/-- a def's promise by its plain function -/
def spV (cl : Cl) (bs : List Bool) (kr : Kd) (f : List D → R D) : Sp := fun vs H Q E => ∃ ds Hs, Same Hs H ∧ RAs cl Hs H bs ds vs ∧ Post cl kr Hs H Q E (f ds)
@[simp] def outF : O → R D
  | .nx _ => .ok .non
  | .rt d _ => .ok d
  | .exc x _ => .exc x
  | .stuck => .stuck
/-- the plain function of a body with n further names -/
@[simp] def runF (m : Sl → O) (n : Nat) : List D → R D := fun ds => outF (m (ds.map some ++ List.replicate n none))
structure Fi [md : Md] (P : Program) (w : World) (K : PySem.W.Frag) (mg : Str → Option Value) (base : Heap) (cl : Cl) (x : Str) (k : Nat) (bs : List Bool) (kr : Kd) (f : List D → R D) : Prop where
  ex : ∃ fa fd ps, FnOk P w K mg base (CXM P w) k fa fd ps (spV cl bs kr f) ∧ mg x = some (.ref fa) ∧ PySem.W.keepIn K (.ref fa) = true ∧ Binds K fd ps []
theorem Fi.mono {P : Program} {w : World} {K : PySem.W.Frag} {mg : Str → Option Value} {base : Heap} {cl : Cl} {x : Str} {k k' : Nat} {bs : List Bool} {kr : Kd} {f : List D → R D} (F : Fi P w K mg base cl x k bs kr f) (h : k ≤ k') : Fi P w K mg base cl x k' bs kr f := by
  obtain ⟨fa, fd, ps, h1, h2⟩ := F.ex
  exact ⟨fa, fd, ps, h1.mono h, h2⟩
def kdOf : Bool → Kd
  | true => .val
  | false => .bor
theorem slots_start {E : En} {Hs H : Hp} (eb : E.b = H) : ∀ {bs : List Bool} {ds : List D} {vs : List V}, RAs E.cl Hs H bs ds vs → ∀ (ls : List Kd), Slots E Hs H (bs.map kdOf ++ ls) (ds.map some ++ List.replicate ls.length none) (vs.map some ++ List.replicate ls.length none) []
  | _, _, _, .nil, ls => by
    induction ls with
    | nil => exact .nil
    | cons l ls ih => exact .skip ih
  | _, _, _, .val r t, ls => .cons (A := []) (.val r) (slots_start eb t ls)
  | _, _, _, .bor r t, ls => by
    refine .cons (A := []) ?_ (slots_start eb t ls)
    show ORep E.cl E.N E.b Hs H .bor _ _ []
    cases r with
    | val r => exact .borV r
    | lst h1 h2 => exact .borL (by rw [eb]; exact h1) h2
    | dct h1 h2 => exact .borK (by rw [eb]; exact h1) h2
    | obj h0 h1 h2 => exact .borO h0 (by rw [eb]; exact h1) (by rw [eb]; exact h2)
theorem def_okF {P : Program} {w : World} {K : PySem.W.Frag} {mg : Str → Option Value} {base : Heap} {cl : Cl} {x qual : Str} {st : Stmt} {fa : Addr} {fd : FuncData} {N ps : List Str} {k : Nat} {bs : List Bool} {kr : Kd} {ls ks' : List Kd} {m : Sl → O}
    (F : Fun K x qual st fa fd) (S : FnScope N ps (defScope st)) (hb : bs.length = ps.length) (hN : N.length = ps.length + ls.length) (fk : kr.fine = true) (ko : kr = .val ∨ kr = .own none)
    (body : ∀ (cdv : Value) (A : Around) (outer : List Env) (s : Shared) (H : Hp) (E : XK) (h0 s0 b0 : Hp), Room k (A.deeper (envOfC qual (defScope st) s.heap.objs.size fa cdv)) →
      SB (cxOf (CXM P w) P w K mg base N qual (defScope st) fa cdv A outer s H E) ⟨cl, h0, s0, b0⟩ kr (fun _ => True) (bs.map kdOf ++ ls) (defBody st) m ks') : FnOk P w K mg base (CXM P w) (k + 1) fa fd ps (spV cl bs kr (runF m ls.length)) := by
  refine fun_okM F S (fun vs H Q E h => ?_) (fun cdv A outer s H vs Q E hr h => ?_)
  · obtain ⟨ds, Hs, _, a, _⟩ := h
    rw [a.len.1, hb]
  · obtain ⟨ds, Hs, e, a, p⟩ := h
    refine ⟨_, pss_ws, ?_⟩
    have tk : Takes (cxOf (CXM P w) P w K mg base N qual (defScope st) fa cdv A outer s H E) (fun c dd _ H' => E c dd H') := takes_of rfl rfl rfl rfl
    have hst : L2.start N vs = vs.map some ++ List.replicate ls.length none := by
      unfold L2.start
      rw [a.len.1, hb, hN, Nat.add_sub_cancel_left]
    have S0 : StRel ⟨cl, H, Hs, H⟩ Hs H (bs.map kdOf ++ ls) (ds.map some ++ List.replicate ls.length none) (L2.start N vs) := by
      rw [hst]
      exact ⟨[], slots_start rfl a ls, List.nodup_nil, (fun a ha => nomatch ha), Same.refl _, e, Same.refl _, fun a z => .inl z, fun a z => z, fun _ z => z⟩
    refine (body cdv A outer s H E H Hs H hr).run _ _ _ _ _ _ tk S0 ?_
    unfold runF at p
    cases q : m (ds.map some ++ List.replicate ls.length none) with
    | stuck => rw [q] at p; exact p
    | nx r =>
      rw [q] at p
      intro Hs' H' σ' S'
      have f := S'.facts
      refine p .non Hs' H' ⟨f.1, f.2.1, f.2.2.1, S'.sub, f.2.2.2⟩ ?_
      rcases ko with rfl | rfl
      · exact RK.val .non
      · exact RK.ownPlain rfl .non
    | rt d r =>
      rw [q] at p
      intro Hs' H' σ' v ks2 _ S'
      have f := S'.facts
      refine p v Hs' H' ⟨f.1, f.2.1, f.2.2.1, S'.sub, f.2.2.2⟩ ?_
      obtain ⟨As, s'⟩ := S'
      have sl := s'.sl
      cases sl with
      | cons o t =>
        rename_i A As'
        refine ⟨A, ORep.anyB kr _ _ _ fk o, (List.nodup_append.mp s'.nd).1, fun a ha => ?_⟩
        have z := s'.dis a (List.mem_append_left _ ha)
        exact ⟨z.1, z.2⟩
    | exc z r =>
      rw [q] at p
      intro Hs' H' σ' c dd ks2 _ S' xr
      have f := S'.facts
      exact p c dd Hs' H' ⟨f.1, f.2.1, f.2.2.1, S'.sub, f.2.2.2⟩ xr
theorem def_ok {P : Program} {w : World} {K : PySem.W.Frag} {mg : Str → Option Value} {base : Heap} {cl : Cl} {x qual : Str} {st : Stmt} {fa : Addr} {fd : FuncData} {N ps : List Str} {k : Nat} {bs : List Bool} {kr : Kd} {ls ks' : List Kd} {m : Sl → O}
    (F : Fun K x qual st fa fd) (S : FnScope N ps (defScope st)) (gm : mg x = some (.ref fa)) (bn : Binds K fd ps []) (hb : bs.length = ps.length) (hN : N.length = ps.length + ls.length) (fk : kr.fine = true) (ko : kr = .val ∨ kr = .own none)
    (body : ∀ (cdv : Value) (A : Around) (outer : List Env) (s : Shared) (H : Hp) (E : XK) (h0 s0 b0 : Hp), Room k (A.deeper (envOfC qual (defScope st) s.heap.objs.size fa cdv)) →
      SB (cxOf (CXM P w) P w K mg base N qual (defScope st) fa cdv A outer s H E) ⟨cl, h0, s0, b0⟩ kr (fun _ => True) (bs.map kdOf ++ ls) (defBody st) m ks') : Fi P w K mg base cl x (k + 1) bs kr (runF m ls.length) :=
  ⟨fa, fd, ps, def_okF F S hb hN fk ko body, gm, F.kp, bn⟩
/-- f(e, ..) -/
theorem se_call {X : Cx} {E : En} {ks : List Kd} {x : Str} {k : Nat} {bs : List Bool} {kr : Kd} {f : List D → R D} {e : Expr} {es : List Expr} {t : Sl → R (List D)} {p pos : Pos} (F : Fi X.prog X.w X.K X.mg X.base E.cl x k bs kr f) (hr : Room k X.A) (ha : SA X E ks bs (e :: es) t)
    (hq : NmOk x) (hg : Gl X x := by rfl) (he : starEach (e :: es) X.env = (false, eval e X.env) :: starEach es X.env := by rfl) (hpl : (backTo pos (starEach es X.env)).any (·.1) = false := by rfl) :
    SE X E ks kr (.Call (.Name x p) (e :: es) [] pos) (gCall f t) := by
  refine ⟨fun Hs H r σ W Q tk S P => ?_⟩
  obtain ⟨fa, fd, ps, h1, h2, h3, h4⟩ := F.ex
  refine we_of (pe_callS h1 hr hg h2 h3 h4 (fun σ => passAt tk σ) pa_wa hq.1 he hpl) ?_
  refine ha.run _ _ _ _ _ _ tk S (PostA.of P fun ds vs Hs' H' e1 g1 a P1 => ?_)
  exact ⟨ds, Hs', g1.sub, a, P1⟩
end VL
end

noncomputable section
namespace VL
open PySem PySem.Spec PyProof.Rows L2
variable {md : Md}

theorem bb_len : bootBuiltins "len" = some (.builtin "len") := by decide +kernel
theorem bn_len : ("len" : Str) ≠ "__name__" := by decide
theorem bd_len : (("len" : Str) == ("__debug__" : Str)) = false := by decide
theorem bb_min : bootBuiltins "min" = some (.builtin "min") := by decide +kernel
theorem bn_min : ("min" : Str) ≠ "__name__" := by decide
theorem bd_min : (("min" : Str) == ("__debug__" : Str)) = false := by decide
theorem bb_max : bootBuiltins "max" = some (.builtin "max") := by decide +kernel
theorem bn_max : ("max" : Str) ≠ "__name__" := by decide
theorem bd_max : (("max" : Str) == ("__debug__" : Str)) = false := by decide
theorem bb_sum : bootBuiltins "sum" = some (.builtin "sum") := by decide +kernel
theorem bn_sum : ("sum" : Str) ≠ "__name__" := by decide
theorem bd_sum : (("sum" : Str) == ("__debug__" : Str)) = false := by decide
theorem bb_all : bootBuiltins "all" = some (.builtin "all") := by decide +kernel
theorem bn_all : ("all" : Str) ≠ "__name__" := by decide
theorem bd_all : (("all" : Str) == ("__debug__" : Str)) = false := by decide
theorem bb_any : bootBuiltins "any" = some (.builtin "any") := by decide +kernel
theorem bn_any : ("any" : Str) ≠ "__name__" := by decide
theorem bd_any : (("any" : Str) == ("__debug__" : Str)) = false := by decide
theorem bb_sorted : bootBuiltins "sorted" = some (.builtin "sorted") := by decide +kernel
theorem bn_sorted : ("sorted" : Str) ≠ "__name__" := by decide
theorem bd_sorted : (("sorted" : Str) == ("__debug__" : Str)) = false := by decide
theorem bb_isinstance : bootBuiltins "isinstance" = some (.builtin "isinstance") := by decide +kernel
theorem bb_list : bootBuiltins "list" = some (.type "list") := by decide +kernel
theorem bn_list : ("list" : Str) ≠ "__name__" := by decide
theorem bd_list : (("list" : Str) == ("__debug__" : Str)) = false := by decide
theorem bb_tuple : bootBuiltins "tuple" = some (.type "tuple") := by decide +kernel
theorem bn_tuple : ("tuple" : Str) ≠ "__name__" := by decide
theorem bd_tuple : (("tuple" : Str) == ("__debug__" : Str)) = false := by decide
theorem bb_int : bootBuiltins "int" = some (.type "int") := by decide +kernel
theorem bn_int : ("int" : Str) ≠ "__name__" := by decide
theorem bd_int : (("int" : Str) == ("__debug__" : Str)) = false := by decide
theorem bb_bool : bootBuiltins "bool" = some (.type "bool") := by decide +kernel
theorem bn_bool : ("bool" : Str) ≠ "__name__" := by decide
theorem bd_bool : (("bool" : Str) == ("__debug__" : Str)) = false := by decide
theorem bb_str : bootBuiltins "str" = some (.type "str") := by decide +kernel
theorem bn_str : ("str" : Str) ≠ "__name__" := by decide
theorem bd_str : (("str" : Str) == ("__debug__" : Str)) = false := by decide
theorem bb_set : bootBuiltins "set" = some (.type "set") := by decide +kernel
inductive Ty5 where
  | list | tuple | bool | str | int
def Ty5.nm : Ty5 → String
  | .list => "list"
  | .tuple => "tuple"
  | .bool => "bool"
  | .str => "str"
  | .int => "int"
@[simp] def isTy : Ty5 → D → Bool
  | .list, .lst _ => true
  | .tuple, .tup _ => true
  | .bool, .bl _ => true
  | .str, .str _ => true
  | .int, .int _ => true
  | .int, .bl _ => true
  | _, _ => false
@[simp] def tyNm : D → Option String
  | .non => some "NoneType"
  | .bl _ => some "bool"
  | .int _ => some "int"
  | .str _ => some "str"
  | .lst _ => some "list"
  | .tup _ => some "tuple"
  | .dct _ => none
  | .obj _ _ => none
  | .scr _ => none
theorem RB.tyX {K : PySem.W.Frag} {cl : Cl} {Hs H : Hp} {d : D} {v : V} {t : String} (h : RB cl Hs H d v) (e : Same Hs H) (q : tyNm d = some t) : TyX K H v (.type t) := by
  cases d with
  | non => cases q; cases h.nonInv; exact .base .non
  | bl b => cases q; cases h.blInv; exact .base (.bl _)
  | int i => cases q; cases h.intInv; exact .base (.int _)
  | str x => cases q; cases h.strInv; exact .base (.str _)
  | lst ds => cases q; obtain ⟨a, xs, rfl, h1, _⟩ := h.lstInv e; exact .base (.lst h1)
  | tup ds => cases q; obtain ⟨a, xs, rfl, h1, _⟩ := h.tupInv e; exact .base (.tup h1)
  | dct ds => cases q
  | obj _ _ => cases q
  | scr _ => cases q
def allTy : List String := ["NoneType", "bool", "int", "str", "list", "tuple", "dict"]
theorem kit_list : ∀ t ∈ allTy, kitB t "list" = some (t == "list") := by decide +kernel
theorem kit_tuple : ∀ t ∈ allTy, kitB t "tuple" = some (t == "tuple") := by decide +kernel
theorem kit_bool : ∀ t ∈ allTy, kitB t "bool" = some (t == "bool") := by decide +kernel
theorem kit_str : ∀ t ∈ allTy, kitB t "str" = some (t == "str") := by decide +kernel
theorem kit_int : ∀ t ∈ allTy, kitB t "int" = some (t == "int" || t == "bool") := by decide +kernel
theorem kit_is (T : Ty5) (d : D) (t : String) (q : tyNm d = some t) : kitB t T.nm = some (isTy T d) := by
  cases T <;> cases d <;> first | (cases q; done) | (cases q; first | exact kit_list _ (by decide) | exact kit_tuple _ (by decide) | exact kit_bool _ (by decide) | exact kit_str _ (by decide) | exact kit_int _ (by decide))
@[simp] def dIs (T : Ty5) (d : D) : R D := match tyNm d with
  | some _ => .ok (.bl (isTy T d))
  | none => .stuck
@[simp] def dIsLT (d : D) : R D := match tyNm d with
  | some _ => .ok (.bl (isTy .list d || isTy .tuple d))
  | none => .stuck
section
variable {X : Cx} {E : En} {ks : List Kd} {e : Expr} {g : Sl → R D} {p p1 p2 p3 pos : Pos}
/-- isinstance(e, T) -/
theorem se_isi (T : Ty5) {y : Str} (he : SE X E ks .bor e g) (hm : X.mg "isinstance" = none) (hmT : X.mg y = none) (hb : bootBuiltins y = some (.type T.nm)) (hn : y ≠ "__name__") (hdb : (y == ("__debug__" : Str)) = false) (hg : Gl X "isinstance" := by rfl) (hgT : Gl X y := by rfl)
    (hs : starEach [e, .Name y p2] X.env = (false, eval e X.env) :: starEach [.Name y p2] X.env := by rfl) (hs2 : starEach [.Name y p2] X.env = (false, eval (.Name y p2) X.env) :: starEach [] X.env := by rfl) (hpl : (backTo pos (starEach [.Name y p2] X.env)).any (·.1) = false := by rfl) :
    SE X E ks .val (.Call (.Name "isinstance" p1) [e, .Name y p2] [] pos) (gUn (dIs T) g) := by
  refine ⟨fun Hs H r σ W Q tk S P => ?_⟩
  refine we_of (pe_callB call_isi hg hm bb_isinstance (pa_cons pe_we (pa_cons (pe_bltn (v := .ty T.nm) hgT hmT hb rfl hn hdb) pa_nil hs2) hs) (by decide) (by decide) hs hpl) ?_
  refine he.run _ _ _ _ _ _ tk S (P.imp fun d v Hs1 H1 e1 g1 k1 P1 => ?_)
  unfold dIs at P1
  split at P1
  · rename_i t q
    exact ⟨v, .ty T.nm, .type t, .type T.nm, isTy T d, rfl, .ty _, k1.rb.tyX g1.sub q, kit_ty (kit_is T d t q), P1.finV g1.sub (.bl _)⟩
  · exact P1.elim
/-- isinstance(e, (list, tuple)) -/
theorem se_isiLT {kk : Nat} (he : SE X E ks .bor e g) (hm : X.mg "isinstance" = none) (hmL : X.mg "list" = none) (hmT : X.mg "tuple" = none) (hg : Gl X "isinstance" := by rfl) (hgL : Gl X "list" := by rfl) (hgT : Gl X "tuple" := by rfl)
    (hs : starEach [e, .Tuple [.Name "list" p2, .Name "tuple" p3] kk p] X.env = (false, eval e X.env) :: starEach [.Tuple [.Name "list" p2, .Name "tuple" p3] kk p] X.env := by rfl) (hs2 : starEach [.Tuple [.Name "list" p2, .Name "tuple" p3] kk p] X.env = (false, eval (.Tuple [.Name "list" p2, .Name "tuple" p3] kk p) X.env) :: starEach [] X.env := by rfl)
    (hs3 : starEach [.Name "list" p2, .Name "tuple" p3] X.env = (false, eval (.Name "list" p2) X.env) :: starEach [.Name "tuple" p3] X.env := by rfl) (hs4 : starEach [.Name "tuple" p3] X.env = (false, eval (.Name "tuple" p3) X.env) :: starEach [] X.env := by rfl)
    (hpl : (backTo pos (starEach [.Tuple [.Name "list" p2, .Name "tuple" p3] kk p] X.env)).any (·.1) = false := by rfl) :
    SE X E ks .val (.Call (.Name "isinstance" p1) [e, .Tuple [.Name "list" p2, .Name "tuple" p3] kk p] [] pos) (gUn dIsLT g) := by
  refine ⟨fun Hs H r σ W Q tk S P => ?_⟩
  refine we_of (pe_callB call_isiT hg hm bb_isinstance (pa_cons pe_we (pa_cons (pe_tup (pa_cons (pe_bltn (v := .ty "list") hgL hmL bb_list rfl) (pa_cons (pe_bltn (v := .ty "tuple") hgT hmT bb_tuple rfl) pa_nil hs4) hs3)) pa_nil hs2) hs) (by decide) (by decide) hs hpl) ?_
  refine he.run _ _ _ _ _ _ tk S (P.imp fun d v Hs1 H1 e1 g1 k1 P1 => ?_)
  refine ⟨by show 2 ≤ sizeLine; decide, fun q hq => ?_⟩
  unfold dIsLT at P1
  split at P1
  · rename_i t q2
    have g2 := Grow.fresh (o := .tup [V.ty "list", V.ty "tuple"]) g1.sub hq
    refine ⟨v, q, _, .type t, [.type "list", .type "tuple"], isTy .list d || isTy .tuple d, rfl, upd_same, .cons (.ty _) (.cons (.ty _) .nil), (k1.rb.grow g2).tyX g2.sub q2, ?_, (P1.grow g2).finV g2.sub (.bl _)⟩
    refine kitAny_cons (b := isTy .list d) (kit_ty (kit_is .list d t q2)) (fun z => ?_) (fun z => by rw [z]; rfl)
    rw [z, Bool.false_or]
    exact kitAny_cons (b := isTy .tuple d) (kit_ty (kit_is .tuple d t q2)) (fun z => by rw [z]; exact kitAny_nil) (fun z => z)
  · exact P1.elim
end

def blsOf : List D → Option (List Bool)
  | [] => some []
  | .bl i :: r => (blsOf r).map (i :: ·)
  | _ :: _ => none
theorem blsOf_eq : ∀ {ds : List D} {ns : List Bool}, blsOf ds = some ns → ds = ns.map D.bl
  | [], _, h => by cases h; rfl
  | d :: r, _, h => by
    cases d <;> first | cases h | skip
    rename_i i
    dsimp only [blsOf] at h
    cases q : blsOf r with
    | none => rw [q] at h; cases h
    | some ms =>
      rw [q] at h
      cases h
      rw [blsOf_eq q]
      rfl
theorem RepL.bls {cl : Cl} {H : Hp} {ns : List Bool} : ∀ {vs : List V}, RepL cl H (ns.map D.bl) vs → vs = ns.map V.bl := by
  induction ns with
  | nil =>
    intro vs h
    cases h
    rfl
  | cons n ns ih =>
    intro vs h
    cases h with
    | cons h1 h2 =>
      cases h1
      rw [ih h2]
      rfl
def fAll : List D → R D
  | [.lst ds] => match blsOf ds with
    | some bs => .ok (.bl (bs.all id))
    | none => .stuck
  | _ => .stuck
def fAny : List D → R D
  | [.lst ds] => match blsOf ds with
    | some bs => .ok (.bl (bs.any id))
    | none => .stuck
  | _ => .stuck
theorem RB.blsInv {cl : Cl} {Hs H : Hp} {ds : List D} {ns : List Bool} {v : V} (h : RB cl Hs H (.lst ds) v) (e : Same Hs H) (q : blsOf ds = some ns) : ∃ a, v = .ref a ∧ H a = some (.lst (ns.map V.bl)) := by
  obtain ⟨p, xs, rfl, h1, r1⟩ := h.lstInv e
  rw [blsOf_eq q] at r1
  rw [r1.bls] at h1
  exact ⟨p, rfl, h1⟩
theorem callv_all {X : Cx} : CallV X.K (rAll X.K) .val [false] fAll := by
  intro cl Hs H ds vs Q W e a P
  obtain ⟨d, v, rfl, rfl, r⟩ := a.one
  cases d <;> first | exact P.elim | skip
  dsimp only [fAll] at P
  split at P
  · rename_i ns q
    obtain ⟨p, rfl, h1⟩ := r.blsInv e q
    exact ⟨p, ns, rfl, SqL.of h1, P.finV e (.bl _)⟩
  · exact P.elim
theorem callv_any {X : Cx} : CallV X.K (rAny X.K) .val [false] fAny := by
  intro cl Hs H ds vs Q W e a P
  obtain ⟨d, v, rfl, rfl, r⟩ := a.one
  cases d <;> first | exact P.elim | skip
  dsimp only [fAny] at P
  split at P
  · rename_i ns q
    obtain ⟨p, rfl, h1⟩ := r.blsInv e q
    exact ⟨p, ns, rfl, SqL.of h1, P.finV e (.bl _)⟩
  · exact P.elim

def insBy {α : Type} (lt : α → α → Bool) (x : α) : List α → List α
  | [] => [x]
  | y :: r => if lt y x then y :: insBy lt x r else x :: y :: r
def sortBy {α : Type} (lt : α → α → Bool) : List α → List α
  | [] => []
  | x :: r => insBy lt x (sortBy lt r)
/-- a strict total order -/
structure Sto {α : Type} (lt : α → α → Bool) : Prop where
  irr : ∀ x, lt x x = false
  tr : ∀ x y z, lt x y = true → lt y z = true → lt x z = true
  tot : ∀ x y, lt x y = true ∨ x = y ∨ lt y x = true
section
variable {α : Type} {lt : α → α → Bool}
theorem insBy_perm (x : α) : ∀ l : List α, (insBy lt x l).Perm (x :: l)
  | [] => List.Perm.refl _
  | y :: r => by
    unfold insBy
    split
    · exact (List.Perm.cons y (insBy_perm x r)).trans (List.Perm.swap x y r)
    · exact List.Perm.refl _
theorem sortBy_perm : ∀ l : List α, (sortBy lt l).Perm l
  | [] => List.Perm.refl _
  | x :: r => (insBy_perm x _).trans (List.Perm.cons x (sortBy_perm r))
theorem insBy_srt (o : Sto lt) (x : α) : ∀ {l : List α}, l.Pairwise (fun a b => lt b a = false) → (insBy lt x l).Pairwise (fun a b => lt b a = false)
  | [], _ => List.pairwise_singleton _ _
  | y :: r, h => by
    obtain ⟨h1, h2⟩ := List.pairwise_cons.mp h
    unfold insBy
    split
    · rename_i q
      refine List.pairwise_cons.mpr ⟨fun z hz => ?_, insBy_srt o x h2⟩
      rcases List.mem_cons.mp ((insBy_perm x r).mem_iff.mp hz) with e | hz
      · rw [e]
        cases w : lt x y with
        | false => rfl
        | true =>
          have := o.tr _ _ _ q w
          rw [o.irr] at this
          cases this
      · exact h1 z hz
    · rename_i q
      have q' : lt y x = false := by simpa using q
      refine List.pairwise_cons.mpr ⟨fun z hz => ?_, h⟩
      rcases List.mem_cons.mp hz with e | hz
      · rw [e]; exact q'
      · cases w : lt z x with
        | false => rfl
        | true =>
          rcases o.tot x y with u | u | u
          · have := o.tr _ _ _ w u
            rw [h1 z hz] at this
            cases this
          · rw [u] at w
            rw [h1 z hz] at w
            cases w
          · rw [q'] at u; cases u
theorem sortBy_srt (o : Sto lt) : ∀ l : List α, (sortBy lt l).Pairwise (fun a b => lt b a = false)
  | [] => List.Pairwise.nil
  | x :: r => insBy_srt o x (sortBy_srt o r)
theorem srt_uniq (o : Sto lt) : ∀ {l m : List α}, l.Perm m → l.Pairwise (fun a b => lt b a = false) → m.Pairwise (fun a b => lt b a = false) → l = m
  | [], m, p, _, _ => (List.nil_perm.mp p).symm
  | x :: l, [], p, _, _ => absurd (List.perm_nil.mp p) (by simp)
  | x :: l, y :: m, p, h1, h2 => by
    obtain ⟨a1, a2⟩ := List.pairwise_cons.mp h1
    obtain ⟨b1, b2⟩ := List.pairwise_cons.mp h2
    have e : x = y := by
      rcases List.mem_cons.mp (p.mem_iff.mp (List.mem_cons_self (a := x) (l := l))) with e | hx
      · exact e
      · rcases List.mem_cons.mp (p.mem_iff.mpr (List.mem_cons_self (a := y) (l := m))) with e | hy
        · exact e.symm
        · rcases o.tot x y with u | u | u
          · rw [b1 x hx] at u; cases u
          · exact u
          · rw [a1 y hy] at u; cases u
    subst e
    rw [srt_uniq o ((List.perm_cons x).mp p) a2 b2]
theorem sortBy_of (o : Sto lt) {l m : List α} (p : m.Perm l) (h : m.Pairwise (fun a b => lt b a = false)) : m = sortBy lt l := srt_uniq o (p.trans (sortBy_perm l).symm) h (sortBy_srt o l)
end
def ltI (a b : Int) : Bool := decide (a < b)
def ltII (a b : Int × Int) : Bool := decide (a.1 < b.1) || (decide (a.1 = b.1) && decide (a.2 < b.2))
theorem sto_I : Sto ltI := ⟨fun x => by simp [ltI], fun x y z h1 h2 => by simp [ltI] at *; omega, fun x y => by simp [ltI]; omega⟩
theorem sto_II : Sto ltII := by
  refine ⟨fun x => by simp [ltII], fun x y z h1 h2 => ?_, fun x y => ?_⟩
  · simp [ltII] at *
    omega
  · obtain ⟨a, b⟩ := x
    obtain ⟨c, d⟩ := y
    simp [ltII]
    omega
def twoD (p : Int × Int) : D := .tup [.int p.1, .int p.2]
def pairsOf : List D → Option (List (Int × Int))
  | [] => some []
  | .tup [.int i, .int j] :: r => (pairsOf r).map ((i, j) :: ·)
  | _ :: _ => none
theorem pairsOf_map (ps : List (Int × Int)) : pairsOf (ps.map twoD) = some ps := by
  induction ps with
  | nil => rfl
  | cons n ns ih =>
    rw [List.map_cons]
    show (pairsOf (ns.map twoD)).map _ = _
    rw [ih]
    rfl
theorem pairsOf_eq : ∀ {ds : List D} {ps : List (Int × Int)}, pairsOf ds = some ps → ds = ps.map twoD
  | [], _, h => by cases h; rfl
  | d :: r, ps, h => by
    unfold pairsOf at h
    split at h
    · rename_i e
      cases e
    · rename_i i j r' e
      cases e
      cases q : pairsOf r with
      | none => rw [q] at h; cases h
      | some ms =>
        rw [q] at h
        cases h
        rw [pairsOf_eq q]
        rfl
    · cases h
def fSorted : List D → R D
  | [.lst ds] => match intsOf ds with
    | some ns => .ok (.lst ((sortBy ltI ns).map D.int))
    | none => match pairsOf ds with
      | some ps => .ok (.lst ((sortBy ltII ps).map twoD))
      | none => .stuck
  | _ => .stuck
theorem RepL.perm {cl : Cl} {H : Hp} : ∀ {vs us : List V}, us.Perm vs → ∀ {ds : List D}, RepL cl H ds vs → ∃ es, es.Perm ds ∧ RepL cl H es us := by
  intro vs us p
  induction p with
  | nil => intro ds h; exact ⟨ds, List.Perm.refl _, h⟩
  | cons x p ih =>
    intro ds h
    cases h with
    | cons h1 h2 =>
      obtain ⟨es, q, r⟩ := ih h2
      exact ⟨_ :: es, List.Perm.cons _ q, .cons h1 r⟩
  | swap x y l =>
    intro ds h
    cases h with
    | cons h1 h2 =>
      cases h2 with
      | cons h2 h3 => exact ⟨_, List.Perm.swap _ _ _, .cons h2 (.cons h1 h3)⟩
  | trans p q ih1 ih2 =>
    intro ds h
    obtain ⟨es, q1, r1⟩ := ih2 h
    obtain ⟨fs, q2, r2⟩ := ih1 r1
    exact ⟨fs, q2.trans q1, r2⟩
def keyV (H : Hp) : V → Int × Int
  | .ref t => match H t with
    | some (.tup [.int i, .int j]) => (i, j)
    | _ => (0, 0)
  | _ => (0, 0)
theorem pair_key {cl : Cl} {Hs H : Hp} (e : Same Hs H) : ∀ {ps : List (Int × Int)} {vs : List V}, RepL cl Hs (ps.map twoD) vs → ps = vs.map (keyV H) ∧ ∀ x ∈ vs, ∃ t, x = V.ref t ∧ H t = some (.tup [.int (keyV H x).1, .int (keyV H x).2])
  | [], _, h => by cases h; exact ⟨rfl, fun x hx => nomatch hx⟩
  | p :: ps, _, h => by
    cases h with
    | cons h1 h2 =>
      obtain ⟨q1, q2⟩ := pair_key e h2
      cases h1 with
      | tup h3 h4 =>
        cases h4 with
        | cons h5 h6 =>
          cases h6 with
          | cons h7 h8 =>
            cases h8
            cases h5
            cases h7
            have h3' := e.at _ _ h3
            rename_i a
            have hk : keyV H (.ref a) = p := by
              unfold keyV
              show (match H a with
                | some (.tup [.int i, .int j]) => (i, j)
                | _ => (0, 0)) = p
              rw [h3']
            refine ⟨by rw [List.map_cons, hk, ← q1], fun x hx => ?_⟩
            rcases List.mem_cons.mp hx with z | z
            · subst z
              exact ⟨a, rfl, by rw [hk]; exact h3'⟩
            · exact q2 x z
theorem callv_sorted {X : Cx} : CallV X.K (fun vs H Q => rSortedI X.K vs H Q ∨ rSortedPO X.K vs H Q) (.own none) [false] fSorted := by
  intro cl Hs H ds vs Q W e a P
  obtain ⟨d, v, rfl, rfl, r⟩ := a.one
  cases d <;> first | exact P.elim | skip
  dsimp only [fSorted] at P
  split at P
  · rename_i ns q
    obtain ⟨p, rfl, h1⟩ := r.intsInv e q
    refine .inl ⟨p, ns, rfl, SqL.of h1, fun ns' p' pm pw hp => ?_⟩
    have z : ns' = sortBy ltI ns := sortBy_of sto_I pm (pw.imp fun {a b} h => by simp [ltI]; omega)
    rw [z]
    exact P.finL e hp (RepL.ofInts _)
  · split at P
    · rename_i ps q
      obtain ⟨p, xs, rfl, h1, r1⟩ := r.lstInv e
      rw [pairsOf_eq q] at r1
      obtain ⟨k1, k2⟩ := pair_key e r1
      refine .inr ⟨p, xs, keyV H, rfl, SqL.of h1, k2, fun ys p' st sb hp => ?_⟩
      obtain ⟨es, pe, re⟩ := RepL.perm sb.perm r1
      have hes : ∃ qs : List (Int × Int), es = qs.map twoD := by
        have : ∀ z ∈ es, ∃ q : Int × Int, z = twoD q := fun z hz => by
          obtain ⟨q, _, hq⟩ := List.mem_map.mp (pe.mem_iff.mp hz)
          exact ⟨q, hq.symm⟩
        clear pe re
        induction es with
        | nil => exact ⟨[], rfl⟩
        | cons z zs ih =>
          obtain ⟨q, hq⟩ := this z List.mem_cons_self
          obtain ⟨qs, hqs⟩ := ih fun z hz => this z (List.mem_cons_of_mem _ hz)
          exact ⟨q :: qs, by rw [hq, hqs]; rfl⟩
      obtain ⟨qs, rfl⟩ := hes
      obtain ⟨k3, k4⟩ := pair_key e re
      have z : qs = sortBy ltII ps := by
        refine sortBy_of sto_II ?_ ?_
        · rw [k1, k3]
          exact sb.perm.map _
        · rw [k3, List.pairwise_map]
          refine List.Pairwise.imp (fun {a b} h => ?_) st
          have h' := SrtO.lexB_no.mp h
          simp [ltII]
          omega
      rw [← z] at P
      exact P.finL e hp re
    · exact P.elim
end VL
end

noncomputable section
namespace VL
open PySem PySem.Spec PyProof.Rows L2
variable {md : Md}

/-- the built-in names that no text here stores -/
structure Bl (mg : Str → Option Value) : Prop where
  len : mg "len" = none
  range : mg "range" = none
  min : mg "min" = none
  max : mg "max" = none
  abs : mg "abs" = none
  sum : mg "sum" = none
  all : mg "all" = none
  any : mg "any" = none
  sorted : mg "sorted" = none
  list : mg "list" = none
  tuple : mg "tuple" = none
  int : mg "int" = none
  bool : mg "bool" = none
  str : mg "str" = none
  isinstance : mg "isinstance" = none
  zip : mg "zip" = none
  enumerate : mg "enumerate" = none
  reversed : mg "reversed" = none
  set : mg "set" = none
  dict : mg "dict" = none
theorem _root_.L2.Room.units65 {k : Nat} {A : Around} (r : Room k A) : A.units + 65 < cLine := by have := r.un; omega
section
variable {X : Cx} {E : En} {kr : Kd} {fin : List Kd → Prop} {ks ks' ks1 : List Kd} {st : Stmt} {m : Sl → O} {a b c e e2 tg : Expr} {g g2 ga gb gc : Sl → R D} {pos p p2 : Pos} {md : Bool}
theorem ss_frzB {i : Nat} (h : SS X E kr fin ks st m ks1) (hk : ks1[i]? = some (.own none) := by rfl) : SS X E kr fin ks st m (ks1.set i .val) := by
  refine ⟨fun Hs H r σ W Dn tk S P => ?_⟩
  refine h.run _ _ _ _ _ _ tk S ?_
  cases q : m r with
  | nx r' =>
    rw [q] at P
    intro Hs' H' σ' S'
    obtain ⟨Hs2, S2⟩ := S'.freeze hk rfl
    exact P _ _ _ S2
  | stuck => rw [q] at P; exact P
  | rt d r' => rw [q] at P; exact P
  | exc x r' => rw [q] at P; exact P
/-- a slice of the script -/
@[simp] def dSlS (d : D) (lo hi : Option Int) : R D := match d with
  | .scr ns => .ok (.lst ((cutL ns lo hi).map D.int))
  | _ => .stuck
@[simp] def gSlS (ga : Sl → R D) (gl gh : Sl → R (Option Int)) : Sl → R D := fun r => do
  let d ← ga r
  let l ← gl r
  let h ← gh r
  dSlS d l h
theorem cutV_ints (ns : List Int) (lo hi : Option Int) : cutV (ns.map V.int) lo hi = (cutL ns lo hi).map V.int := by
  unfold cutV cutL
  rw [List.map_take, List.map_drop, List.length_map]
theorem se_slS {lo hi : Option Expr} {gl gh : Sl → R (Option Int)} (hK : E.cl.K = X.K) (ha : SE X E ks .bor a ga) (hl : SO X E ks lo gl) (hh : SO X E ks hi gh) : SE X E ks (.own none) (.Subscript a (.Slice lo hi none p2) pos) (gSlS ga gl gh) := by
  refine ⟨fun Hs H r σ W Q tk S P => ?_⟩
  refine we_of (pe_slice sl_list pe_we po_wo po_wo) ?_
  refine ha.run _ _ _ _ _ _ tk S (Post.imp (F := fun d => gl r >>= fun l => gh r >>= fun h => dSlS d l h) P fun d v Hs1 H1 e1 g1 k1 P1 => ?_)
  refine hl.run _ _ _ _ _ _ tk (S.grow g1) ?_
  cases q : gl r with
  | stuck => rw [q] at P1; exact P1
  | exc x => rw [q] at P1; exact P1
  | ok l =>
    rw [q] at P1
    intro Hs2 H2 g2
    refine hh.run _ _ _ _ _ _ tk ((S.grow g1).grow g2) ?_
    have P2 : Post E.cl (.own none) Hs2 H2 Q (fun c dd H' => W c dd σ H') (gh r >>= fun h => dSlS d l h) := Post.grow (r := gh r >>= fun h => dSlS d l h) P1 g2
    cases q2 : gh r with
    | stuck => rw [q2] at P2; exact P2
    | exc x => rw [q2] at P2; exact P2
    | ok h =>
      rw [q2] at P2
      intro Hs3 H3 g3
      have P3 : Post E.cl (.own none) Hs3 H3 Q (fun c dd H' => W c dd σ H') (dSlS d l h) := Post.grow (r := dSlS d l h) P2 g3
      cases d <;> first | exact P3.elim | skip
      have k3 := (k1.rb.grow g2).grow g3
      cases k3 with
      | val k =>
        cases k with
        | scr h1 =>
          rw [hK] at h1
          refine ⟨_, _, rfl, g3.sub.seq h1, fun q hq => ?_⟩
          rw [cutV_ints]
          exact P3.finL g3.sub hq (RepL.ofInts _)
@[simp] def dRev : D → R D
  | .lst ds => .ok (.lst ds.reverse)
  | _ => .stuck
theorem se_revL {k : Nat} {p1 p3 : Pos} (ha : SE X E ks .bor a ga) : SE X E ks (.own none) (.Subscript a (.Slice none none (some (.UnaryOp .USub (.Constant (.int 1) k p1) p2)) p3) pos) (gUn dRev ga) := by
  refine ⟨fun Hs H r σ W Q tk S P => ?_⟩
  refine we_of (pe_revL pe_we) ?_
  refine ha.run _ _ _ _ _ _ tk S (P.imp fun d v Hs1 H1 e1 g1 k1 P1 => ?_)
  cases d <;> first | exact P1.elim | skip
  obtain ⟨q, xs, rfl, h1, r1⟩ := k1.rb.lstInv g1.sub
  exact ⟨q, xs, rfl, SqL.of h1, fun l hl => P1.finL g1.sub hl r1.rev⟩
@[simp] def gChain (f f' : D → D → R D) (ga gb gc : Sl → R D) : Sl → R D := fun r => do
  let a ← ga r
  let b ← gb r
  let z ← f a b
  let k ← asB z
  if k then (do
    let c ← gc r
    f' b c) else .ok (.bl false)
theorem chain_read {rr rr' : R2} {f f' : D → D → R D} (hv : OpV X.K rr .val f) (nx : NoX f) (hv' : OpV X.K rr' .val f') (nx' : NoX f') (ha : SE X E ks .bor a ga) (hb : SE X E ks .bor b gb) (hc : SE X E ks .bor c gc)
    {Hs H : Hp} {r : Sl} {σ : L2.St} {W : WX} {Q : VK} (tk : Takes X W) (S : StRel E Hs H ks r σ) (P : Post E.cl .val Hs H Q (fun c dd H' => W c dd σ H') (gChain f f' ga gb gc r)) : tChain rr rr' (WEx X a) (WEx X b) (WEx X c) σ H Q := by
  refine ha.run _ _ _ _ _ _ tk S (Post.imp (F := fun a => gb r >>= fun b => f a b >>= fun z => asB z >>= fun k => if k then (gc r >>= fun c => f' b c) else .ok (.bl false)) P fun d v Hs1 H1 e1 g1 k1 P1 => ?_)
  refine hb.run _ _ _ _ _ _ tk (S.grow g1) (Post.imp (F := fun b => f d b >>= fun z => asB z >>= fun k => if k then (gc r >>= fun c => f' b c) else .ok (.bl false)) P1 fun d2 v2 Hs2 H2 e2 g2 k2 P2 => ?_)
  refine hv _ _ _ _ _ _ _ _ _ g2.sub (k1.rb.grow g2) k2.rb (Post.imp (F := fun z => asB z >>= fun k => if k then (gc r >>= fun c => f' d2 c) else .ok (.bl false)) P2 fun d3 v3 Hs3 H3 e3 g3 k3 P3 => ?_) (nx _ _)
  cases d3 <;> first | exact P3.elim | skip
  rename_i k
  have rp := k3.rep
  cases rp
  refine ⟨k, rfl, ?_⟩
  cases k with
  | true =>
    refine iteT ?_
    refine hc.run _ _ _ _ _ _ tk (((S.grow g1).grow g2).grow g3) (Post.imp (F := fun c => f' d2 c) P3 fun d4 v4 Hs4 H4 e4 g4 k4 P4 => ?_)
    exact hv' _ _ _ _ _ _ _ _ _ g4.sub ((k2.rb.grow g3).grow g4) k4.rb P4 (nx' _ _)
  | false => exact iteF (Post.finV P3 g3.sub (.bl false))
theorem st_chain {op op' : CmpOp} {rr rr' : R2} {f f' : D → D → R D} (ho : OpR X (compareOp op) rr) (hv : OpV X.K rr .val f) (nx : NoX f) (ho' : OpR X (compareOp op') rr') (hv' : OpV X.K rr' .val f') (nx' : NoX f') (ha : SE X E ks .bor a ga) (hb : SE X E ks .bor b gb) (hc : SE X E ks .bor c gc) (hm : lastMarks [op, op'] [b, c] = false := by with_unfolding_all rfl) :
    ST X E ks (.Compare a [op, op'] [b, c] pos) (gTest (gChain f f' ga gb gc)) := by
  refine ⟨fun Hs H r σ W Q tk S P => ?_⟩
  refine wt_of (pt_chain ho ho' pe_we pe_we pe_we hm) ?_
  refine chain_read hv nx hv' nx' ha hb hc tk S (Post.ofT P fun d v Hs' H' e1 g1 k1 P1 => ?_)
  cases d <;> first | exact P1.elim | skip
  have rp := k1.rep
  cases rp
  exact ⟨_, rfl, P1 Hs' H' (Grow.refl g1.sub)⟩
end

section
variable {X : Cx} {E : En} {ks : List Kd} {e : Expr} {es : List Expr} {t : Sl → R (List D)} {p pos : Pos}
theorem sf_Len (B : Bl X.mg) (ha : SA X E ks [false] (e :: es) t) (hc : X.calm = true := by rfl) (hg : Gl X "len" := by rfl) (he : starEach (e :: es) X.env = (false, eval e X.env) :: starEach es X.env := by rfl) (hpl : (backTo pos (starEach es X.env)).any (·.1) = false := by rfl) : SE X E ks (.val) (.Call (.Name "len" p) (e :: es) [] pos) (gCall fLen t) :=
  se_callB (call_len.or call_lenR) callv_len B.len bb_len ha hg bn_len bd_len he hpl
theorem sf_Min2 (B : Bl X.mg) (ha : SA X E ks [false, false] (e :: es) t) (hc : X.calm = true := by rfl) (hg : Gl X "min" := by rfl) (he : starEach (e :: es) X.env = (false, eval e X.env) :: starEach es X.env := by rfl) (hpl : (backTo pos (starEach es X.env)).any (·.1) = false := by rfl) : SE X E ks (.val) (.Call (.Name "min" p) (e :: es) [] pos) (gCall fMin2 t) :=
  se_callB (call_min2 hc) callv_min2 B.min bb_min ha hg bn_min bd_min he hpl
theorem sf_Min1 (B : Bl X.mg) (ha : SA X E ks [false] (e :: es) t) (hc : X.calm = true := by rfl) (hg : Gl X "min" := by rfl) (he : starEach (e :: es) X.env = (false, eval e X.env) :: starEach es X.env := by rfl) (hpl : (backTo pos (starEach es X.env)).any (·.1) = false := by rfl) : SE X E ks (.val) (.Call (.Name "min" p) (e :: es) [] pos) (gCall fMin1 t) :=
  se_callB (cr_min hc) callv_min1 B.min bb_min ha hg bn_min bd_min he hpl
theorem sf_Max1 (B : Bl X.mg) (ha : SA X E ks [false] (e :: es) t) (hc : X.calm = true := by rfl) (hg : Gl X "max" := by rfl) (he : starEach (e :: es) X.env = (false, eval e X.env) :: starEach es X.env := by rfl) (hpl : (backTo pos (starEach es X.env)).any (·.1) = false := by rfl) : SE X E ks (.val) (.Call (.Name "max" p) (e :: es) [] pos) (gCall fMax1 t) :=
  se_callB (cr_max hc) callv_max1 B.max bb_max ha hg bn_max bd_max he hpl
theorem sf_Sum (B : Bl X.mg) (ha : SA X E ks [false] (e :: es) t) (hc : X.calm = true := by rfl) (hg : Gl X "sum" := by rfl) (he : starEach (e :: es) X.env = (false, eval e X.env) :: starEach es X.env := by rfl) (hpl : (backTo pos (starEach es X.env)).any (·.1) = false := by rfl) : SE X E ks (.val) (.Call (.Name "sum" p) (e :: es) [] pos) (gCall fSum t) :=
  se_callB (cr_sum hc) callv_sum B.sum bb_sum ha hg bn_sum bd_sum he hpl
theorem sf_All (B : Bl X.mg) (ha : SA X E ks [false] (e :: es) t) (hc : X.calm = true := by rfl) (hg : Gl X "all" := by rfl) (he : starEach (e :: es) X.env = (false, eval e X.env) :: starEach es X.env := by rfl) (hpl : (backTo pos (starEach es X.env)).any (·.1) = false := by rfl) : SE X E ks (.val) (.Call (.Name "all" p) (e :: es) [] pos) (gCall fAll t) :=
  se_callB (cr_all hc) callv_all B.all bb_all ha hg bn_all bd_all he hpl
theorem sf_Any (B : Bl X.mg) (ha : SA X E ks [false] (e :: es) t) (hc : X.calm = true := by rfl) (hg : Gl X "any" := by rfl) (he : starEach (e :: es) X.env = (false, eval e X.env) :: starEach es X.env := by rfl) (hpl : (backTo pos (starEach es X.env)).any (·.1) = false := by rfl) : SE X E ks (.val) (.Call (.Name "any" p) (e :: es) [] pos) (gCall fAny t) :=
  se_callB (cr_any hc) callv_any B.any bb_any ha hg bn_any bd_any he hpl
theorem sf_Sorted (B : Bl X.mg) (ha : SA X E ks [false] (e :: es) t) (hc : X.calm = true := by rfl) (hg : Gl X "sorted" := by rfl) (he : starEach (e :: es) X.env = (false, eval e X.env) :: starEach es X.env := by rfl) (hpl : (backTo pos (starEach es X.env)).any (·.1) = false := by rfl) : SE X E ks (.own none) (.Call (.Name "sorted" p) (e :: es) [] pos) (gCall fSorted t) :=
  se_callB (cr_sortedI.or cr_sortedPO) callv_sorted B.sorted bb_sorted ha hg bn_sorted bd_sorted he hpl
theorem sf_List (B : Bl X.mg) (ha : SA X E ks [false] (e :: es) t) (hc : X.calm = true := by rfl) (hg : Gl X "list" := by rfl) (he : starEach (e :: es) X.env = (false, eval e X.env) :: starEach es X.env := by rfl) (hpl : (backTo pos (starEach es X.env)).any (·.1) = false := by rfl) : SE X E ks (.own none) (.Call (.Name "list" p) (e :: es) [] pos) (gCall fList t) :=
  se_callTy call_list_of callv_list B.list bb_list ha hg bn_list bd_list he hpl
theorem si_list {p1 p2 : Pos} {g : Sl → R D} (B : Bl X.mg) (he : SE X E ks .bor e g) (hg : Gl X "isinstance" := by rfl) (hgT : Gl X "list" := by rfl) (hs : starEach [e, .Name "list" p2] X.env = (false, eval e X.env) :: starEach [.Name "list" p2] X.env := by rfl) (hs2 : starEach [.Name "list" p2] X.env = (false, eval (.Name "list" p2) X.env) :: starEach [] X.env := by rfl) (hpl : (backTo pos (starEach [.Name "list" p2] X.env)).any (·.1) = false := by rfl) :
    SE X E ks .val (.Call (.Name "isinstance" p1) [e, .Name "list" p2] [] pos) (gUn (dIs .list) g) := se_isi .list he B.isinstance B.list bb_list bn_list bd_list hg hgT hs hs2 hpl
theorem si_tuple {p1 p2 : Pos} {g : Sl → R D} (B : Bl X.mg) (he : SE X E ks .bor e g) (hg : Gl X "isinstance" := by rfl) (hgT : Gl X "tuple" := by rfl) (hs : starEach [e, .Name "tuple" p2] X.env = (false, eval e X.env) :: starEach [.Name "tuple" p2] X.env := by rfl) (hs2 : starEach [.Name "tuple" p2] X.env = (false, eval (.Name "tuple" p2) X.env) :: starEach [] X.env := by rfl) (hpl : (backTo pos (starEach [.Name "tuple" p2] X.env)).any (·.1) = false := by rfl) :
    SE X E ks .val (.Call (.Name "isinstance" p1) [e, .Name "tuple" p2] [] pos) (gUn (dIs .tuple) g) := se_isi .tuple he B.isinstance B.tuple bb_tuple bn_tuple bd_tuple hg hgT hs hs2 hpl
theorem si_bool {p1 p2 : Pos} {g : Sl → R D} (B : Bl X.mg) (he : SE X E ks .bor e g) (hg : Gl X "isinstance" := by rfl) (hgT : Gl X "bool" := by rfl) (hs : starEach [e, .Name "bool" p2] X.env = (false, eval e X.env) :: starEach [.Name "bool" p2] X.env := by rfl) (hs2 : starEach [.Name "bool" p2] X.env = (false, eval (.Name "bool" p2) X.env) :: starEach [] X.env := by rfl) (hpl : (backTo pos (starEach [.Name "bool" p2] X.env)).any (·.1) = false := by rfl) :
    SE X E ks .val (.Call (.Name "isinstance" p1) [e, .Name "bool" p2] [] pos) (gUn (dIs .bool) g) := se_isi .bool he B.isinstance B.bool bb_bool bn_bool bd_bool hg hgT hs hs2 hpl
theorem si_str {p1 p2 : Pos} {g : Sl → R D} (B : Bl X.mg) (he : SE X E ks .bor e g) (hg : Gl X "isinstance" := by rfl) (hgT : Gl X "str" := by rfl) (hs : starEach [e, .Name "str" p2] X.env = (false, eval e X.env) :: starEach [.Name "str" p2] X.env := by rfl) (hs2 : starEach [.Name "str" p2] X.env = (false, eval (.Name "str" p2) X.env) :: starEach [] X.env := by rfl) (hpl : (backTo pos (starEach [.Name "str" p2] X.env)).any (·.1) = false := by rfl) :
    SE X E ks .val (.Call (.Name "isinstance" p1) [e, .Name "str" p2] [] pos) (gUn (dIs .str) g) := se_isi .str he B.isinstance B.str bb_str bn_str bd_str hg hgT hs hs2 hpl
theorem si_int {p1 p2 : Pos} {g : Sl → R D} (B : Bl X.mg) (he : SE X E ks .bor e g) (hg : Gl X "isinstance" := by rfl) (hgT : Gl X "int" := by rfl) (hs : starEach [e, .Name "int" p2] X.env = (false, eval e X.env) :: starEach [.Name "int" p2] X.env := by rfl) (hs2 : starEach [.Name "int" p2] X.env = (false, eval (.Name "int" p2) X.env) :: starEach [] X.env := by rfl) (hpl : (backTo pos (starEach [.Name "int" p2] X.env)).any (·.1) = false := by rfl) :
    SE X E ks .val (.Call (.Name "isinstance" p1) [e, .Name "int" p2] [] pos) (gUn (dIs .int) g) := se_isi .int he B.isinstance B.int bb_int bn_int bd_int hg hgT hs hs2 hpl
end
/-- how often a while may turn here -/
def WB : Nat := Classical.choose (oN_ex 100000)
theorem WB_eq : WB = 100000 := Classical.choose_spec (oN_ex 100000)
theorem fi_stuck {P : Program} {w : World} {K : PySem.W.Frag} {mg : Str → Option Value} {base : Heap} {cl : Cl} {x : Str} {k : Nat} {bs : List Bool} {kr : Kd} {fa : Addr} {fd : FuncData} {ps : List Str} (gm : mg x = some (.ref fa)) (kp : PySem.W.keepIn K (.ref fa) = true) (bn : Binds K fd ps []) :
    Fi P w K mg base cl x k bs kr (fun _ => .stuck) :=
  ⟨fa, fd, ps, ⟨fun vs H Q E ⟨ds, Hs, _, _, z⟩ => z.elim, fun A outer s H args us vs Q E _ _ _ _ ⟨ds, Hs, _, _, z⟩ => z.elim⟩, gm, kp, bn⟩
end VL
end

noncomputable section
namespace VL
open PySem PySem.Spec PyProof.Rows L2
variable {md : Md}

theorem whileL_inv (I : Sl → Prop) (μ : Sl → Nat) {tc : Sl → R Bool} {mb : Sl → O} (st : ∀ r, I r → ∃ b, tc r = .ok b ∧ (b = true → ∃ r', mb r = .nx r' ∧ I r' ∧ μ r' < μ r)) : ∀ (n : Nat) (r : Sl), I r → μ r < n → ∃ r', whileL tc mb n r = .nx r' ∧ I r' ∧ tc r' = .ok false
  | 0, r, _, h => absurd h (Nat.not_lt_zero _)
  | n + 1, r, hi, h => by
    obtain ⟨b, e, k⟩ := st r hi
    cases b with
    | false =>
      refine ⟨r, ?_, hi, e⟩
      unfold whileL
      rw [e]
      rfl
    | true =>
      obtain ⟨r', e2, hi', hm⟩ := k rfl
      obtain ⟨r'', e3, h3, h4⟩ := whileL_inv I μ st n r' hi' (by omega)
      refine ⟨r'', ?_, h3, h4⟩
      unfold whileL
      rw [e]
      show (match mb r with
        | .nx r' => whileL tc mb n r'
        | o => o) = _
      rw [e2]
      exact e3
/-- a comprehension over what is walked -/
theorem mapR_map {α β γ : Type} {f : α → R β} {l : List γ} {F : γ → α} {G : γ → β} (h : ∀ x ∈ l, f (F x) = .ok (G x)) : mapR f (l.map F) = .ok (l.map G) := by
  induction l with
  | nil => rfl
  | cons x l ih =>
    rw [List.map_cons]
    unfold mapR
    rw [h x List.mem_cons_self, ih fun y hy => h y (List.mem_cons_of_mem _ hy)]
    rfl
theorem gComp_map {γ : Type} {gi : Sl → R (List D)} {t : Tg} {vs : List Nat} {tt : Sl → R Bool} {ge : Sl → R D} {r : Sl} {l : List γ} {F : γ → D} {G : γ → D} (h : gi r = .ok (l.map F)) (hg : ∀ x ∈ l, gTurn t vs tt ge r (F x) = .ok (some (G x))) : gComp gi t vs tt ge r = .ok (.lst (l.map G)) := by
  unfold gComp
  rw [h]
  show (noX (mapR (gTurn t vs tt ge r) (l.map F)) >>= fun os => R.ok (D.lst (os.filterMap id))) = _
  rw [mapR_map (G := fun x => some (G x)) hg]
  show R.ok (D.lst ((l.map fun x => some (G x)).filterMap id)) = _
  rw [List.filterMap_map]
  congr 2
  induction l with
  | nil => rfl
  | cons x l ih =>
    rw [List.map_cons, List.filterMap_cons]
    simp
theorem gComp_filter {γ : Type} {gi : Sl → R (List D)} {t : Tg} {vs : List Nat} {tt : Sl → R Bool} {ge : Sl → R D} {r : Sl} {l : List γ} {F : γ → D} {p : γ → Bool} {G : γ → D} (h : gi r = .ok (l.map F)) (hg : ∀ x ∈ l, gTurn t vs tt ge r (F x) = .ok (if p x then some (G x) else none)) : gComp gi t vs tt ge r = .ok (.lst ((l.filter p).map G)) := by
  unfold gComp
  rw [h]
  show (noX (mapR (gTurn t vs tt ge r) (l.map F)) >>= fun os => R.ok (D.lst (os.filterMap id))) = _
  rw [mapR_map (G := fun x => if p x then some (G x) else none) hg]
  show R.ok (D.lst ((l.map fun x => if p x then some (G x) else none).filterMap id)) = _
  rw [List.filterMap_map]
  congr 2
  clear h hg
  induction l with
  | nil => rfl
  | cons x l ih =>
    rw [List.filterMap_cons, List.filter_cons]
    cases q : p x <;> simpa [q, Function.comp_def] using ih

@[simp] theorem lt_n30 {k : Nat} (h : k < 1073741824) : k < n30 := by rw [n30_val]; exact h
@[simp] theorem lt_n64 {k : Nat} (h : k < 18446744073709551616) : k < n64 := by rw [n64_val]; exact h
@[simp] theorem le_iMil {k : Int} (h : k ≤ 1000000) : k ≤ iMil := by rw [iMil_val]; exact h
@[simp] theorem le_szL' {k : Nat} (h : k ≤ 16777216) : k ≤ szL := le_szL h
@[simp] theorem lt_szL' {k : Nat} (h : k < 16777216) : k < szL := lt_szL h
theorem mulOk_left {a b : Int} (h1 : -(2 ^ 64) < a) (h2 : a < 2 ^ 64) : mulOk a b = true := by
  unfold mulOk
  rw [i64_val, decide_eq_true h1, decide_eq_true h2]
  rfl
theorem mulOk_right {a b : Int} (h1 : -(2 ^ 64) < b) (h2 : b < 2 ^ 64) : mulOk a b = true := by
  unfold mulOk
  rw [i64_val, decide_eq_true h1, decide_eq_true h2]
  cases (decide (-(2 ^ 64) < a) && decide (a < 2 ^ 64)) <;> rfl
theorem fmod_pos {a b : Int} (hb : 0 < b) : 0 ≤ a.fmod b ∧ a.fmod b < b := ⟨Int.fmod_nonneg_of_pos a hb, Int.fmod_lt_of_pos a hb⟩
theorem dPow_ok {a : Int} {k : Nat} (h1 : k ≤ 1000000) (h2 : a.natAbs < 2 ^ 64) : dPow (.int a) (.int k) = .ok (.int (a ^ k)) := by
  dsimp only [dPow]
  rw [if_pos ⟨Int.natCast_nonneg k, by rw [iMil_val]; omega, by rw [n64_val]; exact h2⟩, Int.toNat_natCast]
theorem dRange1_nat {n : Nat} (h : n ≤ 16777216) : dRange1 (.int (n : Int)) = .ok ((List.range n).map fun (i : Nat) => D.int i) := by
  dsimp only [dRange1]
  rw [if_pos (by rw [Int.toNat_natCast, szL_val]; exact h)]
  unfold rangeD
  rw [Int.toNat_natCast]
  simp
theorem dRange2_nat {a n : Nat} (h : a + n ≤ 16777216) : dRange2 (.int (a : Int)) (.int ((a + n : Nat) : Int)) = .ok ((List.range' a n).map fun (i : Nat) => D.int i) := by
  dsimp only [dRange2]
  rw [if_pos (by rw [szL_val]; omega), show (((a + n : Nat) : Int) - (a : Int)).toNat = n by omega]
  unfold rangeD
  rw [List.range'_eq_map_range]
  simp
theorem range_split (n : Nat) : List.range n = List.range' 0 n := List.range_eq_range'
theorem seq_nx {m1 m2 : Sl → O} {r r' : Sl} (h : m1 r = .nx r') : mSeq m1 m2 r = m2 r' := by
  unfold mSeq
  rw [h]
theorem cutL_from {α : Type} {xs : List α} {k : Nat} (h : k ≤ xs.length) {i : Int} (hi : i = (k : Int) := by rfl) : cutL xs (some i) none = xs.drop k := by
  subst hi
  unfold cutL
  rw [HT.sIx_nat, HT.sIx_none, Nat.min_eq_left h, List.take_of_length_le (by rw [List.length_drop]; omega)]
theorem cutL_to {α : Type} {xs : List α} {k : Nat} {i : Int} (hi : i = (k : Int) := by rfl) : cutL xs none (some i) = xs.take k := by
  subst hi
  unfold cutL
  rw [HT.sIx_nat, HT.sIx_none, List.drop_zero, Nat.sub_zero]
  rcases Nat.le_total k xs.length with h | h
  · rw [Nat.min_eq_left h]
  · rw [Nat.min_eq_right h, List.take_length, List.take_of_length_le h]
@[simp] theorem dEq_int (a b : Int) : dEq (.int a) (.int b) = .ok (.bl (a == b)) := rfl
@[simp] theorem dNe_int (a b : Int) : dNe (.int a) (.int b) = .ok (.bl (!(a == b))) := rfl
@[simp] theorem dEq_bl (a b : Bool) : dEq (.bl a) (.bl b) = .ok (.bl (a == b)) := rfl
@[simp] theorem dNe_bl (a b : Bool) : dNe (.bl a) (.bl b) = .ok (.bl (!(a == b))) := rfl
/-- what is plain data of a depth below n -/
def pl : Nat → D → Bool
  | 0, _ => false
  | n + 1, .lst xs => xs.all (pl n) && decide (xs.length ≤ szL)
  | n + 1, .tup xs => xs.all (pl n) && decide (xs.length ≤ szL)
  | _ + 1, .str x => (PyData.str x).canLay0 && decide (x.length ≤ szL)
  | _ + 1, .dct _ => false
  | _ + 1, .obj _ _ => false
  | _ + 1, .scr _ => false
  | _ + 1, _ => true
theorem toPys_lay : ∀ {ds : List D}, (∀ d ∈ ds, (toPy d).canLay0 = true) → PyData.canLayAll0 (toPys ds) = true
  | [], _ => rfl
  | d :: ds, h => by
    show ((toPy d).canLay0 && PyData.canLayAll0 (toPys ds)) = true
    rw [h d List.mem_cons_self, toPys_lay fun x hx => h x (List.mem_cons_of_mem _ hx)]
    rfl
theorem toPys_depth {n : Nat} : ∀ {ds : List D}, (∀ d ∈ ds, (toPy d).depth ≤ n) → PyData.depthAll (toPys ds) ≤ n
  | [], _ => Nat.zero_le _
  | d :: ds, h => by
    show max (toPy d).depth (PyData.depthAll (toPys ds)) ≤ n
    exact Nat.max_le.mpr ⟨h d List.mem_cons_self, toPys_depth fun x hx => h x (List.mem_cons_of_mem _ hx)⟩
theorem pl_lay : ∀ (n : Nat) (d : D), pl n d = true → (toPy d).canLay0 = true ∧ (toPy d).depth ≤ n
  | 0, _, h => by cases h
  | n + 1, .lst xs, h => by
    have h' : xs.all (pl n) = true := by
      have q : (xs.all (pl n) && decide (xs.length ≤ szL)) = true := h
      exact (Bool.and_eq_true_iff.mp q).1
    have k : ∀ d ∈ xs, (toPy d).canLay0 = true ∧ (toPy d).depth ≤ n := fun d hd => pl_lay n d (List.all_eq_true.mp h' d hd)
    exact ⟨toPys_lay fun d hd => (k d hd).1, Nat.succ_le_succ (toPys_depth fun d hd => (k d hd).2)⟩
  | n + 1, .tup xs, h => by
    have h' : xs.all (pl n) = true := by
      have q : (xs.all (pl n) && decide (xs.length ≤ szL)) = true := h
      exact (Bool.and_eq_true_iff.mp q).1
    have k : ∀ d ∈ xs, (toPy d).canLay0 = true ∧ (toPy d).depth ≤ n := fun d hd => pl_lay n d (List.all_eq_true.mp h' d hd)
    exact ⟨toPys_lay fun d hd => (k d hd).1, Nat.succ_le_succ (toPys_depth fun d hd => (k d hd).2)⟩
  | _ + 1, .str x, h => by
    have q : ((PyData.str x).canLay0 && decide (x.length ≤ szL)) = true := h
    exact ⟨(Bool.and_eq_true_iff.mp q).1, Nat.zero_le _⟩
  | _ + 1, .dct _, h => by cases h
  | _ + 1, .obj _ _, h => by cases h
  | _ + 1, .scr _, h => by cases h
  | _ + 1, .non, _ => ⟨rfl, Nat.zero_le _⟩
  | _ + 1, .bl _, _ => ⟨rfl, Nat.zero_le _⟩
  | _ + 1, .int _, _ => ⟨rfl, Nat.zero_le _⟩
theorem pl_shp {n : Nat} {d : D} (hn : n ≤ 64) (h : pl n d = true) : shp d = true := by
  obtain ⟨a, b⟩ := pl_lay n d h
  unfold shp SeqAt.shaped
  rw [a, decide_eq_true (Nat.le_trans b hn)]
  rfl
mutual
theorem eqv_self : ∀ (d : D), (toPy d).canLay0 = true → PyData.eqv (toPy d) (toPy d) = true
  | .non, _ => rfl
  | .bl b, _ => by show (b == b) = true; simp
  | .int i, _ => by show (i == i) = true; simp
  | .str x, _ => by show (x == x) = true; simp
  | .lst xs, h => eqvAll_self xs h
  | .tup xs, h => eqvAll_self xs h
  | .dct _, h => by cases h
  | .obj _ _, h => by cases h
  | .scr _, h => by cases h
theorem eqvAll_self : ∀ (ds : List D), PyData.canLayAll0 (toPys ds) = true → PyData.eqvAll (toPys ds) (toPys ds) = true
  | [], _ => rfl
  | d :: ds, h => by
    have q : ((toPy d).canLay0 && PyData.canLayAll0 (toPys ds)) = true := h
    obtain ⟨a, b⟩ := Bool.and_eq_true_iff.mp q
    show (PyData.eqv (toPy d) (toPy d) && PyData.eqvAll (toPys ds) (toPys ds)) = true
    rw [eqv_self d a, eqvAll_self ds b]
    rfl
end
theorem dEq_self {n : Nat} {d : D} (hn : n ≤ 64) (h : pl n d = true) : dEq d d = .ok (.bl true) := by
  unfold dEq dEqB
  rw [pl_shp hn h, eqv_self d (pl_lay n d h).1]
  rfl
theorem dNe_self {n : Nat} {d : D} (hn : n ≤ 64) (h : pl n d = true) : dNe d d = .ok (.bl false) := by
  unfold dNe dEqB
  rw [pl_shp hn h, eqv_self d (pl_lay n d h).1]
  rfl
theorem pl_ints {xs : List Int} {n : Nat} (h : xs.length ≤ szL) : pl (n + 2) (.lst (xs.map D.int)) = true := by
  show ((xs.map D.int).all (pl (n + 1)) && decide ((xs.map D.int).length ≤ szL)) = true
  rw [List.length_map, decide_eq_true h, Bool.and_true, List.all_eq_true]
  intro d hd
  obtain ⟨i, _, rfl⟩ := List.mem_map.mp hd
  rfl
theorem pl_pair {p : Int × Int} {n : Nat} : pl (n + 2) (twoD p) = true := by
  show (([D.int p.1, D.int p.2] : List D).all (pl (n + 1)) && decide (2 ≤ szL)) = true
  rw [decide_eq_true (by rw [szL_val]; omega)]
  rfl
theorem pl_pairs {ps : List (Int × Int)} {n : Nat} (h : ps.length ≤ szL) : pl (n + 3) (.lst (ps.map twoD)) = true := by
  show ((ps.map twoD).all (pl (n + 2)) && decide ((ps.map twoD).length ≤ szL)) = true
  rw [List.length_map, decide_eq_true h, Bool.and_true, List.all_eq_true]
  intro d hd
  obtain ⟨p, _, rfl⟩ := List.mem_map.mp hd
  exact pl_pair
end VL
end

noncomputable section
namespace VL
open PySem PySem.Spec PyProof.Rows L2
open ModeZ

/-- where a def stands -/
structure AtF (K : PySem.W.Frag) (mg : Str → Option Value) (x qual : Str) (st : Stmt) : Prop where
  ex : ∃ fa fd, Fun K x qual st fa fd ∧ mg x = some (.ref fa)
theorem at_mk {K : PySem.W.Frag} {h : Heap} {mg : Str → Option Value} (X : K.In h) (G : h.Ns mainGlobals mg) {x qual : Str} {st : Stmt} {f : Addr} {od an : Option Addr} {sl : Array (Option Value)} {oc kV dc pm cd ct : Value}
    (a : PySem.W.nsIn K mainGlobals x = some (some (.ref f))) (l : K.lookup f = some ⟨oc, od, .func (PySem.W.fnOf x qual (defArgs st) (defBody st) (defScope st) .none kV dc pm an cd ct), sl⟩) (c : PySem.W.codeIn K cd qual = true) (k : PySem.W.keepIn K (.ref f) = true) :
    AtF K mg x qual st := ⟨f, _, fun_mk l c k, PySem.W.mg_of X G a⟩
def spLaw (K : PySem.W.Frag) : Sp := fun vs H Q _ => ∃ (a : Addr) (ns : List Int), vs = [.ref a] ∧ SqL K H a (ns.map V.int) ∧ ns.length ≤ 63 ∧ ∀ H', Q (.bl true) H'
theorem cx_no {P : Program} {w : World} {outer : List Env} {H : Hp} {s s' : Shared} {u : Value} (h : L2.CX P w outer H s (fun _ _ _ => False) u s') : False := by
  obtain ⟨a, B, H', cls, d, h⟩ := h
  exact h.2.2.2.2.2.2.2
/-- a law's promise by its plain half -/
theorem law_end {P : Program} {w : World} {K : PySem.W.Frag} {mg : Str → Option Value} {base : Heap} {cl : Cl} {k : Nat} {b : Bool} {f : List D → R D} {fa : Addr} {fd : FuncData} {x : Str} (hK : cl.K = K) (F : FnOk P w K mg base (L2.CX P w) k fa fd [x] (spV cl [b] .val f))
    (hf : ∀ ns : List Int, ns.length ≤ 63 → f [.scr ns] = .ok (.bl true)) (hk : k ≤ 65) : FnOk P w K mg base (L2.CX P w) 65 fa fd [x] (spLaw K) := by
  refine (F.mono hk).imp ?_
  intro vs H Q E ⟨a, ns, e, hs, hl, q⟩
  subst e
  refine ⟨[.scr ns], H, Same.refl _, ?_, ?_⟩
  · have r : Rep cl H (.scr ns) (.ref a) := .scr (by rw [hK]; exact hs)
    cases b with
    | true => exact .val r .nil
    | false => exact .bor (.val r) .nil
  · rw [hf ns hl]
    intro v Hs' H' g rk
    obtain ⟨A, o, _⟩ := rk
    cases o with
    | val r =>
      cases r
      exact q H'
theorem law_walk {l : PySem.W.OpenLaw} {q : Program} {loose : List Str} {XP : (Str → Option Value) → Heap → Prop} {YP : World → Heap → Prop} {d : DefRec} {K : Params → PySem.W.Frag} {x : Str} (hn : l.most = some 63) (hdf : d.params.defaults = [])
    (hY : ∀ (w : World) (h : Heap), YP w h → (K w.params).In h)
    (F : ∀ (w : World) (mg : Str → Option Value) (fa : Addr) (h : Heap), (K w.params).In h → h.Ns mainGlobals mg → mg d.name = some (.ref fa) →
      ∃ fd : FuncData, (∀ (s : Shared) (u : Value), BindsTo s fd ⟨[u], []⟩ [(x, u)]) ∧ ∀ base : Heap, (K w.params).In base → base.Ns mainGlobals mg → FnOk l.prog w (K w.params) mg base (L2.CX l.prog w) 65 fa fd [x] (spLaw (K w.params))) :
    PySem.W.WalkO q loose XP YP l.row.toRowW d [] (fun f vs => PySem.call f vs) :=
  L2.walk_of (n := 63) (k := 65) (x := x) (CX := fun w => L2.CX l.prog w) (sp := fun w => spLaw (K w.params)) hn (by decide) hdf ⟨rfl, by decide, by decide⟩ hY F (fun _ _ a ns hl _ hS => ⟨a, ns, rfl, hS, hl, fun _ => rfl⟩) fun _ _ _ _ _ z => cx_no z
end VL
end

noncomputable section
namespace VL
open PySem PySem.Spec PyProof.Rows L2
variable {md : Md}

theorem mxD_args (a d : Value) : argsOk "max" ⟨[a], [(Str.ofString "default", d)]⟩ := by unfold argsOk; kernel_rfl
section
variable {prog : Program} {w : World} {A : Around} {R : Result → Shared → Prop} {I S : Addr} {fp wr : List Addr} {n : Nat} {P : Nat → Value → Prop} {St : Nat → Heap → Prop} {bt : Nat → Nat → Bool} {kw : List (Str × Value)} {E : Value → Shared → Prop}
/-- what the loop leaves -/
abbrev mxEnd (R : Result → Shared → Prop) (s : Shared) (S : Addr) (wr : List Addr) (P : Nat → Value → Prop) (bt : Nat → Nat → Bool) (n : Nat) : Prop :=
  ∀ v h2 t2, P (argBest bt (n - 1)) v → (∀ b o, b ∉ wr → b ≠ S → s.heap.get? b = some o → h2.get? b = some o) → R (.ok (.ret v)) { s with heap := h2, toks := t2 }
theorem mx_turn (W : Walks prog w A.in1 I fp wr n P St) (hc : CmpOf prog w A.in1 .Gt P bt) (hf : S ∉ fp) : ∀ (k j : Nat) (s : Shared) (vb : Value) (c : Nat), n - (j + 1) = k → j + 1 ≤ n → St (j + 1) s.heap → P (argBest bt j) vb →
    s.heap.get? S = some { cls := .type "list", dict := none, data := .seq #[vb, vb] c, slots := #[] } → mxEnd R s S wr P bt n → codeAny (model prog w) A (.builtin "max.loop" ⟨[.ref I, .none, .ref S], kw⟩) R s
  | 0, j, s, vb, c, hk, hj, q, hp, hS, hR => by
    have e : j + 1 = n := by omega
    have nw : S ∉ wr := fun z => hf (W.sub _ z)
    refine codeAny_builtin PySem.F.entry_max_loop ?_; rw [Around.under_plainId PySem.F.plain_max_loop _]
    show wpAny _ A.in1 (seqItems? (.ref S) >>= _) _ _ s; refine wpAny_bind (wpAny_seqItems hS rfl ?_)
    show wpAny _ A.in1 (tryCatch (pyNext (.ref I)) _ >>= _) _ _ s; refine wpAny_bind (wpAny_tryCatch (W.done s _ _ (e ▸ q) fun h2 t2 kp => ?_))
    show wpAny _ A.in1 (updateSeq S (fun _ => #[]) >>= _) _ _ _; refine wpAny_bind ?_
    refine wpAny_updateSeq (kp S _ nw hS) rfl (wpAny_bind (wpAny_letGo (wpAny_pure (hR vb _ t2 (by rw [← e]; exact hp) fun b o hb ne g => ?_))))
    exact (Heap.get?_update_other _ _ (Ne.symm ne)).trans (kp b o hb g)
  | k + 1, j, s, vb, c, hk, hj, q, hp, hS, hR => by
    have lt : j + 1 < n := by omega
    have nw : S ∉ wr := fun z => hf (W.sub _ z)
    have nm : (toString "max" ++ toString ".loop" : String) = "max.loop" := by first | decide | rfl
    refine codeAny_builtin PySem.F.entry_max_loop ?_; rw [Around.under_plainId PySem.F.plain_max_loop _]
    show wpAny _ A.in1 (seqItems? (.ref S) >>= _) _ _ s; refine wpAny_bind (wpAny_seqItems hS rfl ?_)
    show wpAny _ A.in1 (tryCatch (pyNext (.ref I)) _ >>= _) _ _ s; refine wpAny_bind (wpAny_tryCatch (W.item (j + 1) s _ _ lt q fun v h2 t2 hv q2 kp => ?_))
    show wpAny _ A.in1 (tryCatch (holding [v, v] (richCompare .Gt v vb >>= _)) _ >>= _) _ _ _; refine wpAny_bind (wpAny_tryCatch (wpAny_holding (wpAny_bind (hc (j + 1) (argBest bt j) v vb _ _ _ hv hp ?_))))
    refine wpAny_bind (wpAny_holding (wpAny_truthy_bool (wpAny_bind (wpAny_letGo (wpAny_pure ?_)))))
    have hS2 := kp S _ nw hS
    cases hb : bt (j + 1) (argBest bt j) with
    | true =>
      simp only [if_true, Bool.false_eq_true, if_false]; refine wpAny_bind (wpAny_updateSeq hS2 rfl (wpAny_bind (wpAny_letGo ?_))); rw [nm]
      refine wpAny_pure ⟨plainId_quiet PySem.F.plain_max_loop _, mx_turn W hc hf k (j + 1) _ v _ (by omega) lt (W.frame _ _ _ q2 fun b hbf o g => ?_) (by unfold argBest; rw [hb]; exact hv) (Heap.get?_update_self _ hS2 rfl) fun v2 h3 t3 hv2 k3 => ?_⟩
      · exact Eq.trans (Heap.get?_update_other _ _ (fun z : S = b => hf (z ▸ hbf))) g
      · exact hR v2 h3 t3 hv2 fun b o nb ns g => k3 b o nb ns (Eq.trans (Heap.get?_update_other _ _ (Ne.symm ns)) (kp b o nb g))
    | false =>
      simp only [if_true, Bool.false_eq_true, if_false]; refine wpAny_bind (wpAny_letGo ?_); rw [nm]
      refine wpAny_pure ⟨plainId_quiet PySem.F.plain_max_loop _, mx_turn W hc hf k (j + 1) _ vb c (by omega) lt q2 (by unfold argBest; rw [hb]; exact hp) hS2 fun v2 h3 t3 hv2 k3 => ?_⟩
      exact hR v2 h3 t3 hv2 fun b o nb ns g => k3 b o nb ns (kp b o nb g)
theorem mx_first (W : Walks prog w A.in1 I fp wr n P St) (hc : CmpOf prog w A.in1 .Gt P bt) (hf : S ∉ fp) (hn : 0 < n) {s : Shared} {c : Nat} (q : St 0 s.heap) (hS : s.heap.get? S = some { cls := .type "list", dict := none, data := .seq #[] c, slots := #[] }) (hR : mxEnd R s S wr P bt n) :
    codeAny (model prog w) A (.builtin "max.loop" ⟨[.ref I, .none, .ref S], kw⟩) R s := by
  have nw : S ∉ wr := fun z => hf (W.sub _ z)
  have nm : (toString "max" ++ toString ".loop" : String) = "max.loop" := by first | decide | rfl
  refine codeAny_builtin PySem.F.entry_max_loop ?_; rw [Around.under_plainId PySem.F.plain_max_loop _]
  show wpAny _ A.in1 (seqItems? (.ref S) >>= _) _ _ s; refine wpAny_bind (wpAny_seqItems hS rfl ?_)
  show wpAny _ A.in1 (tryCatch (pyNext (.ref I)) _ >>= _) _ _ s; refine wpAny_bind (wpAny_tryCatch (W.item 0 s _ _ hn q fun v h2 t2 hv q2 kp => ?_))
  have hS2 := kp S _ nw hS
  show wpAny _ A.in1 (updateSeq S (fun _ => #[v, v]) >>= _) _ _ _; refine wpAny_bind (wpAny_updateSeq hS2 rfl ?_); rw [nm]
  refine wpAny_pure ⟨plainId_quiet PySem.F.plain_max_loop _, mx_turn W hc hf _ 0 _ v _ rfl hn (W.frame _ _ _ q2 fun b hbf o g => ?_) hv (Heap.get?_update_self _ hS2 rfl) fun v2 h3 t3 hv2 k3 => ?_⟩
  · exact Eq.trans (Heap.get?_update_other _ _ (fun z : S = b => hf (z ▸ hbf))) g
  · exact hR v2 h3 t3 hv2 fun b o nb ns g => k3 b o nb ns (Eq.trans (Heap.get?_update_other _ _ (Ne.symm ns)) (kp b o nb g))
theorem mx_none (W : Walks prog w A.in1 I fp wr 0 P St) {s : Shared} {c : Nat} {d : Value} (hf : S ∉ fp) (q : St 0 s.heap) (hS : s.heap.get? S = some { cls := .type "list", dict := none, data := .seq #[] c, slots := #[] })
    (hR : ∀ h2 t2, (∀ b o, b ∉ wr → b ≠ S → s.heap.get? b = some o → h2.get? b = some o) → R (.ok (.ret d)) { s with heap := h2, toks := t2 }) :
    codeAny (model prog w) A (.builtin "max.loop" ⟨[.ref I, .none, .ref S], [(Str.ofString "default", d)]⟩) R s := by
  refine codeAny_builtin PySem.F.entry_max_loop ?_; rw [Around.under_plainId PySem.F.plain_max_loop _]
  show wpAny _ A.in1 (seqItems? (.ref S) >>= _) _ _ s; refine wpAny_bind (wpAny_seqItems hS rfl ?_)
  show wpAny _ A.in1 (tryCatch (pyNext (.ref I)) _ >>= _) _ _ s; refine wpAny_bind (wpAny_tryCatch (W.done s _ _ q fun h2 t2 kp => ?_))
  show wpAny _ A.in1 (rule _ >>= _) _ _ _; refine wpAny_bind (wpAny_rule ?_)
  exact wpAny_pure (hR h2 t2 fun b o hb _ g => kp b o hb g)
theorem mx_call {s : Shared} {l : Addr} {xs : Array (Int × Tok)} {d : Value} {Q : Value → Shared → Prop} (hh : A.handled = none) (hl : s.heap.IsList l (intItems xs))
    (h : ∀ v h2 t2, (if xs.size = 0 then v = d else (intItems xs)[argBest (fun i j => decide (numAt xs i > numAt xs j)) (xs.size - 1)]? = some v) → (∀ b o, s.heap.get? b = some o → h2.get? b = some o) → Q v { s with heap := h2, toks := t2 }) :
    wpAny (model prog w) A (call (.builtin "max") [.ref l] [(Str.ofString "default", d)]) Q E s := by
  have nm : (toString "max" ++ toString ".loop" : String) = "max.loop" := by first | decide | rfl
  refine PyProof.Rows.kmb_tree PySem.F.kind_max PySem.F.plain_max PySem.F.entry_max (mxD_args _ _) ?_
  show wpAny _ A.in1 (Builtin.Builtins.bindParams "max" ["key", "default"] 0 ⟨[], [(Str.ofString "default", d)]⟩ >>= _) _ _ s; refine wpAny_bind (wpAny_of_eq (show Builtin.Builtins.bindParams "max" ["key", "default"] 0 ⟨[], [(Str.ofString "default", d)]⟩ = pure [none, some d] from rfl) ?_)
  refine wpAny_bind (wpAny_pure (wpAny_bind (iter_intList hl fun s2 e2 st fp ne => ?_)))
  subst e2
  refine wpAny_bind (wpAny_newObj_type ?_); rw [nm]
  have W := Walks.list (prog := prog) (w := w) (A := A.in1) hh s.heap.objs.size l ne (intItems xs)
  have hf : (s.heap.push { cls := .type "list_iterator", data := .fields #[.ref l, .int 0 0] }).objs.size ∉ [s.heap.objs.size, l] := fun z => Nat.lt_irrefl _ (fp _ z)
  have fin : ∀ (h2 : Heap), (∀ b o, b ∉ [s.heap.objs.size] → b ≠ (s.heap.push { cls := .type "list_iterator", data := .fields #[.ref l, .int 0 0] }).objs.size → ((s.heap.push { cls := .type "list_iterator", data := .fields #[.ref l, .int 0 0] }).push { cls := .type "list", dict := none, data := .seq #[] 0, slots := #[] }).get? b = some o → h2.get? b = some o) → ∀ b o, s.heap.get? b = some o → h2.get? b = some o := by
    intro h2 k2
    refine old_kept fun b o nb g => k2 b o nb (Nat.ne_of_lt (Heap.lt_size g)) (Heap.get?_push_of_some _ g)
  by_cases z : xs.size = 0
  · have zi : (intItems xs).size = 0 := by unfold intItems; rw [Array.size_map]; exact z
    rw [zi] at W
    refine wpAny_pure ⟨plainId_quiet PySem.F.plain_max_loop _, mx_none W hf (W.frame _ _ _ st fun b _ o g => Heap.get?_push_of_some _ g) (Heap.get?_push_size _ rfl) fun h2 t2 k2 => ?_⟩
    exact h d h2 t2 (by rw [if_pos z]) (fin h2 k2)
  · have zi : (intItems xs).size = xs.size := by unfold intItems; rw [Array.size_map]
    rw [zi] at W
    refine wpAny_pure ⟨plainId_quiet PySem.F.plain_max_loop _, mx_first W (CmpOf.ints_gt (numAt xs) (fun _ _ => intItems_at)) hf (Nat.pos_of_ne_zero z) (W.frame _ _ _ st fun b _ o g => Heap.get?_push_of_some _ g) (Heap.get?_push_size _ rfl) fun v h2 t2 hv k2 => ?_⟩
    exact h v h2 t2 (by rw [if_neg z]; exact hv) (fin h2 k2)
end

section
variable {prog : Program} {w : World} {A : Around} {R : Result → Shared → Prop} {I S : Addr} {fp wr : List Addr} {n : Nat} {P : Nat → Value → Prop} {St : Nat → Heap → Prop} {bt : Nat → Nat → Bool} {kw : List (Str × Value)} {E : Value → Shared → Prop}
end

end VL
end

noncomputable section
namespace VL
open PySem PySem.Spec PyProof.Rows L2
variable {md : Md}
def rMxD (K : PySem.W.Frag) (le : Int → Int → Prop) : List V → List V → Hp → VK → Prop := fun vs zs H Q => ∃ (a : Addr) (ns : List Int) (z : V), vs = [V.ref a] ∧ zs = [z] ∧ SqL K H a (ns.map V.int) ∧ (ns = [] → Q z H) ∧ ∀ m, m ∈ ns → (∀ y, y ∈ ns → le y m) → Q (.int m) H
theorem cr_mxD {X : Cx} (hc : X.calm = true) : CallRK X (.builtin "max") [Str.ofString "default"] (rMxD X.K fun y m => y ≤ m) := by
  intro pins s σ H vs zs us ws Q I r rz h
  obtain ⟨a, ns, z, rfl, rfl, hs, h0, h1⟩ := h
  obtain ⟨its, rv, hl, _⟩ := I.list hs
  obtain ⟨w1, rfl, e1⟩ := vals1 rz
  rw [Vals.ref1 r]
  have hi := rv.ints
  obtain ⟨xs, e⟩ := hi.allInts.items
  have hn : numsOf (intItems xs).toList = ns := by rw [← e]; exact hi.numsOf
  rw [nums_intItems] at hn
  have hl2 := hl.isList
  rw [e] at hl2
  have len : xs.size = ns.length := by rw [← hn, List.length_map, Array.length_toList]
  refine mx_call (I.ok.hd hc) hl2 fun v h2 t2 hv hk => ?_
  by_cases z0 : xs.size = 0
  · rw [if_pos z0] at hv
    subst hv
    exact ⟨z, H, I.kept hk, e1, h0 (List.length_eq_zero_iff.mp (len ▸ z0))⟩
  · rw [if_neg z0] at hv
    obtain ⟨t, rfl⟩ := intItems_at hv
    obtain ⟨k1, k2⟩ := argBest_gt (numAt xs) (xs.size - 1)
    refine ⟨.int _, H, I.kept hk, ⟨_, rfl⟩, h1 _ ?_ fun y hy => ?_⟩
    · rw [numAt_eq, ← hn]; exact PySem.getD_mem (by rw [List.length_map, Array.length_toList]; omega)
    · rw [← hn] at hy
      obtain ⟨j, hj, rfl⟩ := mem_getD hy
      rw [List.length_map, Array.length_toList] at hj
      rw [← numAt_eq]; exact k2 j (by omega)
def fMaxD : D → D → R D
  | .lst ds, d => match intsOf ds with
    | some ns => .ok (if ns = [] then d else .int (lmax ns))
    | none => .stuck
  | _, _ => .stuck
section
variable {X : Cx} {E : En} {ks : List Kd} {e e0 : Expr} {g g0 : Sl → R D} {p pos kp : Pos}
theorem se_maxD (B : Bl X.mg) (ha : SE X E ks .bor e g) (hd : SE X E ks .val e0 g0) (hc : X.calm = true := by rfl) (hg : Gl X "max" := by rfl) (hs : starEach (e :: []) X.env = (false, eval e X.env) :: starEach [] X.env := by rfl)
    (he : backTo pos (starEach (e :: []) X.env) = (false, eval e X.env) :: backTo pos (starEach [] X.env) := by rfl) (hpl : (backTo pos (starEach (e :: []) X.env)).any (·.1) = false := by rfl)
    (hall : (backToKw pos (keywordEach [⟨some "default", e0, kp⟩] X.env)).all (·.1.isSome) = true := by rfl) (hnone : (backToKw pos (keywordEach [⟨some "default", e0, kp⟩] X.env)).any (·.1.isNone) = false := by rfl)
    (hks : (backToKw pos (keywordEach [⟨some "default", e0, kp⟩] X.env)).filterMap (·.1) = [Str.ofString "default"] := by rfl) :
    SE X E ks .val (.Call (.Name "max" p) [e] [⟨some "default", e0, kp⟩] pos) (gBin fMaxD g g0) := by
  refine ⟨fun Hs H r σ W Q tk S P => ?_⟩
  refine we_of (pe_callBK (cr_mxD hc) hg B.max bb_max (pa_cons pe_we pa_nil hs) (pk_cons pe_we pk_nil) bn_max bd_max he hpl hall hnone hks) ?_
  refine ha.run _ _ _ _ _ _ tk S (P.imp fun d1 v1 Hs1 H1 e1 g1 k1 P1 => ?_)
  refine hd.run _ _ _ _ _ _ tk (S.grow g1) (P1.imp fun d2 v2 Hs2 H2 e2 g2 k2 P2 => ?_)
  have rb := k1.rb.grow g2
  cases d1 <;> first | exact P2.elim | skip
  dsimp only [fMaxD] at P2
  split at P2
  · rename_i ns q
    obtain ⟨a, rfl, h1⟩ := rb.intsInv g2.sub q
    refine ⟨a, ns, v2, rfl, rfl, SqL.of h1, fun z => ?_, fun m hm hle => ?_⟩
    · rw [if_pos z] at P2
      exact P2 _ _ _ (Grow.refl g2.sub) (RK.val k2.rep)
    · have hle2 : ∀ y, y ∈ ns → y ≤ m := hle
      rw [if_neg (List.ne_nil_of_mem hm)] at P2
      rw [lmax_of hm hle2]
      exact P2.finV g2.sub (.int _)
  · exact P2.elim
end
end VL
end

noncomputable section
namespace VL
open PySem PySem.Spec PyProof.Rows L2
variable {md : Md}

def rRemD (K : PySem.W.Frag) : V → List V → Hp → VK → Prop := fun x xs H Q => ∃ (l : Addr) (vs : List V) (ds : List PyData) (y : V) (d : PyData) (j : Nat), x = .ref l ∧ xs = [y] ∧ H l = some (.lst vs) ∧ DpAll K H vs ds ∧ Dp K H y d ∧
  PyData.plainAll ds = true ∧ d.plain = true ∧ d.depth ≤ 64 ∧ SeqAt.dataPlace ds d = some j ∧ Q .non (upd H l (.lst (vs.eraseIdx j)))
theorem mt_removeD {X : Cx} (hu : X.A.units + 65 < cLine) : MtR X "list.remove" (rRemD X.K) := by
  intro pins s σ H x xs v us Q I rx rxs h
  obtain ⟨l, vs, ds, y, d, j, rfl, rfl, hH, hv, hy, p1, p2, dep, hp, q⟩ := h
  cases rx
  obtain ⟨u, rfl, ru⟩ := rxs.one
  obtain ⟨z, its, n, r, hl, e⟩ := I.lstM hH
  obtain ⟨as, r1⟩ := Dp.readsAll I ds _ its hv r
  obtain ⟨bs, r2⟩ := Dp.reads I d y u hy ru
  refine SeqAt.remove_list_data (l := l) (vs := its.toArray) ⟨_, e, rfl, n, rfl⟩ r1 r2 p1 p2 (by omega) hp (by rw [List.size_toArray]; omega) ?_
  refine ⟨.non, _, I.lset (its' := its.eraseIdx j) (t' := s.toks) hH e ?_ (r.eraseIdx j) ?_, rfl, q⟩
  · show its.toArray.eraseIdxIfInBounds j = (its.eraseIdx j).toArray
    rw [List.eraseIdxIfInBounds_toArray]
  · have z2 : (vs.eraseIdx j).length ≤ vs.length := List.length_eraseIdx_le _ _
    omega
theorem place_toPys (d : D) : ∀ ds : List D, SeqAt.dataPlace (toPys ds) (toPy d) = ds.findIdx? fun z => dEqB z d
  | [] => rfl
  | x :: xs => by
    have ih := place_toPys d xs
    unfold SeqAt.dataPlace at ih ⊢
    show List.findIdx? (fun y => PyData.eqv y (toPy d)) (toPy x :: toPys xs) = _
    rw [List.findIdx?_cons, List.findIdx?_cons, ih]
    rfl
theorem RepL.eraseIdx {cl : Cl} {H : Hp} : ∀ {ds : List D} {vs : List V}, RepL cl H ds vs → ∀ j, RepL cl H (ds.eraseIdx j) (vs.eraseIdx j)
  | _, _, .nil, _ => .nil
  | _, _, .cons a r, 0 => r
  | _, _, .cons a r, j + 1 => .cons a (RepL.eraseIdx r j)
section
variable {X : Cx} {E : En} {kr : Kd} {fin : List Kd → Prop} {ks ks' : List Kd} {e : Expr} {g : Sl → R D} {pos : Pos}
def remL (ds : List D) (d : D) : Option (List D) := if shp d && shp (.lst ds) then (ds.findIdx? fun z => dEqB z d).map fun j => ds.eraseIdx j else none
@[simp] def mRem (i : Nat) (g : Sl → R D) : Sl → O := fun r => match r[i]? with
  | some (some (.lst ds)) => onR (g r) r fun d => (match remL ds d with
    | some ds' => .nx (r.set i (some (.lst ds')))
    | none => .stuck)
  | _ => .stuck
theorem ss_remove {i : Nat} {n : Option Addr} {x : Str} {p1 p2 p3 : Pos} (hu : X.A.units + 65 < cLine) (he : SE X E ks .val e g) (hf : fin ks := by trivial) (hk : ks[i]? = some (.own n) := by rfl) (hN : X.N[i]? = some x := by rfl) (hv : Vis X.env.scope x := by first | exact Or.inl rfl | exact Or.inr (Or.inl rfl) | exact Or.inr (Or.inr rfl))
    (hq : NmOk x)
    (hs : swapsWith (.Call (.Attribute (.Name x p1) "remove" p2) [e] [] p3) none pos.line X.env = pure false := by rfl)
    (hbase : attributeBase (.Name x p1) "remove" X.env (eval (.Name x p1) X.env) = eval (.Name x p1) X.env := by rfl)
    (hfew : ((backTo p3 (starEach [e] X.env)).all (fun x => !x.1) && (backToKw p3 (keywordEach [] X.env)).all (fun x => x.1.isSome)
      && decide ([e].length + ([] : List Keyword).length + (if ([] : List Keyword).isEmpty then 0 else 1) < 30)) = true := by rfl)
    (hline : (p2.endLine == p3.line) = true := by rfl) (hst : starEach [e] X.env = (false, eval e X.env) :: starEach [] X.env := by rfl) (hplain : (backTo p3 (starEach [] X.env)).any (·.1) = false := by rfl) :
    SS X E kr fin ks (.Expr (.Call (.Attribute (.Name x p1) "remove" p2) [e] [] p3) pos) (mRem i g) ks := by
  refine ⟨fun Hs H r σ W Dn tk S P => ?_⟩
  refine ws_of (ps_expr (pe_bm PySem.F.plainAttrs_list PySem.F.slot_list_remove PySem.F.type_list_remove (mt_removeD hu) (pe_var hN hv hq.1 hq.2) (pa_cons pe_we pa_nil hst) hbase hfew hline hst hplain) hs) ?_
  unfold mRem at P
  split at P
  · rename_i ds q
    obtain ⟨a, xs, ea, h1, r1, _⟩ := S.mutL hk q
    refine ⟨.ref a, ea, tyV_lst h1, ?_⟩
    refine he.run _ _ _ _ _ _ tk S (Post.ofS hf S P fun d v Hs' H' e1 g1 k1 P1 => ?_)
    obtain ⟨a', xs', ea', h2, r2, up⟩ := (S.grow g1).mutL hk q
    rw [ea] at ea'
    cases ea'
    cases q2 : remL ds d with
    | none => rw [q2] at P1; exact P1.elim
    | some ds' =>
      rw [q2] at P1
      unfold remL at q2
      split at q2
      · rename_i hsh
        have h' : shp d = true ∧ shp (.lst ds) = true := by simpa using hsh
        cases q3 : ds.findIdx? fun z => dEqB z d with
        | none => rw [q3] at q2; cases q2
        | some j =>
          rw [q3] at q2
          cases q2
          have c1 := SeqAt.canLay_of_shaped h'.1
          have c2 := SeqAt.canLay_of_shaped h'.2
          have dep : (toPy d).depth ≤ 64 := of_decide_eq_true (Bool.and_eq_true_iff.mp h'.1).2
          have lay2 : PyData.canLayAll0 (toPys ds) = true := c2
          refine ⟨a, xs', toPys ds, v, toPy d, j, rfl, rfl, h2, ?_, ?_, PyData.plainAll_of_canLay0 _ lay2, PyData.plain_of_canLay0 _ c1, dep, ?_, P1 _ _ _ (up _ _ (r2.eraseIdx j))⟩
          · exact RepL.dp ds xs' lay2 (RepL.same g1.sub _ _ r2)
          · exact Rep.dp d v c1 (Rep.same g1.sub _ _ k1.rep)
          · rw [place_toPys]; exact q3
      · cases q2
  · exact P.elim
end
end VL
end

noncomputable section
namespace VL
open PySem PySem.Spec PyProof.Rows L2
variable {md : Md}

theorem upd_comm {H : Hp} {a b : Addr} {o u : HO} (h : a ≠ b) : upd (upd H a o) b u = upd (upd H b u) a o := by
  funext c
  by_cases h1 : c = a
  · rw [h1, upd_ne h, upd_same, upd_same]
  · rw [upd_ne h1]
    by_cases h2 : c = b
    · rw [h2, upd_same, upd_same]
    · rw [upd_ne h2, upd_ne h2, upd_ne h1]
theorem xat_mk {P : Program} {w : World} {K : PySem.W.Frag} {mg : Str → Option Value} {base : Heap} {cl : Cl} {C qual : Str} {a fI : Addr} {fd : FuncData} {st : Stmt} {p p1 p2 p3 : Pos} (T : OexC K a) (hcl : cl.f C = some a) (gm : mg C = some (.ref a))
    (iC : PySem.W.findIn K (.ref a) "__init__" = some (some (.ref fI))) (tI : PySem.W.typeIn K (.ref fI) = some (.type "function")) (hno : PySem.W.findIn K (.ref a) "at" = some none)
    (F : Fun K "__init__" qual st fI fd) (S : FnScope ["self", "at"] ["self", "at"] (defScope st)) (bn : Binds K fd ["self", "at"] []) (hb : defBody st = [.Assign [.Attribute (.Name "self" p1) "at" p2] (.Name "at" p3) p])
    (v1 : Vis (defScope st) "self") (v2 : Vis (defScope st) "at")
    (hs : ∀ X : Cx, X.env.scope = defScope st → swapsWith (.Name "at" p3) (some (.Attribute (.Name "self" p1) "at" p2)) p.line X.env = pure false) : XAt P w K mg base cl C 1 := by
  refine ⟨a, fI, fd, ["self", "at"], hcl, gm, T, iC, tI, bn, F.ok S (fun vs H Q E ⟨x, v, e, _⟩ => by rw [e] <;> rfl) fun cdv A outer s H vs Q E hr ⟨x, v, e, hx, q⟩ => ?_⟩
  subst e
  rw [hb]
  refine ⟨_, pss_one (ps_ost (pe_var (i := 0) rfl v1 (by decide) (by decide)) (pe_var (i := 1) rfl v2 (by decide) (by decide)) (hs _ rfl)), ?_⟩
  refine ⟨v, rfl, .ref x, rfl, x, a, rfl, T, hno, .inl ⟨hx, fun dx hd ne => ?_⟩⟩
  have := q dx hd ne
  rw [upd_comm (Ne.symm ne)] at this
  exact this
end VL
end

noncomputable section
namespace VL
open PySem PySem.Spec PyProof.Rows L2
open ModeZ

abbrev HdT := Value × Option Nat × (Addr → Value → Option Addr → TS)
section
variable {X : Cx} {body : List Stmt} {hd0 : ExceptHandler} {hds : List ExceptHandler} {l : List HdT} {pos : Pos} {tb : WX → TS} {Wo : WX}
end
end VL
end

noncomputable section
namespace VL
open PySem PySem.Spec PyProof.Rows L2
open ModeZ

section
variable {X : Cx} {E : En} {kr : Kd} {fin : List Kd → Prop} {ks ks' : List Kd}
end
end VL
end

noncomputable section
namespace VL
open PySem PySem.Spec PyProof.Rows L2
open ModeZ

section
variable {X : Cx} {pins : List (Addr × Obj)} {σ : L2.St} {H : Hp} {s : Shared}
theorem codeO_tbl {c : Addr} {q : Str} (ps : Array Value) : LamX.CodeO c q ≠ .tbl ps := fun z => by
  unfold LamX.CodeO at z
  cases z
end

end VL
end

noncomputable section
namespace VL
open PySem PySem.Spec PyProof.Rows L2
open ModeZ

end VL
end

noncomputable section
namespace VL
open PySem PySem.Spec PyProof.Rows L2
open ModeZ

end VL
end

noncomputable section
namespace L2
open PySem PySem.Spec PyProof.Rows
section
variable {P : Program} {w : World} {A : Around} {E : Value → Shared → Prop} {s : Shared}
theorem call_set_listI {l : Addr} {items : Array Value} (ns : List Int) {Q : Value → Shared → Prop} (hh : A.handled = none) (hl : s.heap.IsList l items) (hit : IntsAre items.toList ns) (hb : ns.length + 1 < scanBound)
    (h : ∀ (h' : Heap) (tk c : Nat), SetR w h' s.heap.objs.size (fun j => decide (j ∈ ns)) c → c ≤ ns.length → (∀ b o, s.heap.get? b = some o → h'.get? b = some o) → Q (.ref s.heap.objs.size) { s with heap := h', toks := tk }) :
    wpAny (model P w) A (call (.type "set") [.ref l]) Q E s := by
  have hisz : items.size = ns.length := by
    have q := IntsAre.length hit
    rw [Array.length_toList] at q
    exact q
  obtain ⟨c, tl, hmro⟩ := F.called_set.mro
  have hmade := F.called_set.made
  have hsub := F.called_set.sub
  refine wpAny_call (codeAny_of_tree ?_)
  show wpAny _ _ (callAny (.type "set") _) _ _ _
  refine wpAny_pure ⟨Code.quiet_builtin _ (by decide +kernel), codeAny_builtin F.entry_type_call ?_⟩
  rw [Around.under_plain (weight_type_call_type "set" [.ref l] []) rfl]
  have h1 := F.called_set.notType
  have h2 := F.called_set.canCreate
  have hct := F.typeCall_set_1 (.ref l)
  repeat (any_goals (first | assumption | wp_step))

  refine codeAny_mono (code_set_led1 (.ref l) (E := E) (Q₁ := fun obj s₁ => obj = .ref s.heap.objs.size ∧ s₁ = { s with heap := s.heap.push { cls := .type "set", dict := none, data := .set #[] 0 (.fresh 0 0 (!w.params.followText "set-order")) } }) ⟨rfl, rfl⟩) fun r s₁ hr => ?_
  cases r with
  | error e => exact hr
  | ok fl =>
    cases fl with
    | ret obj =>
      obtain ⟨rfl, rfl⟩ := hr
      have hS : (s.heap.push { cls := .type "set", dict := none, data := .set #[] 0 (.fresh 0 0 (!w.params.followText "set-order")) }).get? s.heap.objs.size = some { cls := .type "set", dict := none, data := .set #[] 0 (.fresh 0 0 (!w.params.followText "set-order")) } := Heap.get?_push_size _ rfl
      have hT : Shared.TypeIs { s with heap := s.heap.push { cls := .type "set", dict := none, data := .set #[] 0 (.fresh 0 0 (!w.params.followText "set-order")) } } (.ref s.heap.objs.size) "set" := ⟨_, hS, rfl⟩
      have hli := F.called_set.init.lookup
      have hbi := F.called_set.init.bind (.ref s.heap.objs.size)
      repeat (any_goals (first | assumption | wp_step))

      refine codeAny_mono (codeAny_call_builtin (R := wants (fun r s₂ => r = .none ∧ ∃ h' tk c, s₂ = { s with heap := h', toks := tk } ∧ SetR w h' s.heap.objs.size (fun j => decide (j ∈ ns)) c ∧ c ≤ ns.length ∧
          (∀ b o, s.heap.get? b = some o → h'.get? b = some o)) E) F.called_set.init.plain F.entry_set_init (check_set_init_1 hT ?_)) fun r₂ s₂ hr₂ => ?_
      · obtain ⟨ol, hol, hcl, nl, hdl⟩ := hl
        obtain ⟨ocls, odict, odata, oslots⟩ := ol
        simp only at hcl hdl
        subst hcl; subst hdl
        have hol' : (s.heap.push { cls := .type "set", dict := none, data := .set #[] 0 (.fresh 0 0 (!w.params.followText "set-order")) }).get? l = some { cls := .type "list", dict := odict, data := .seq items nl, slots := oslots } := Heap.get?_push_of_some _ hol
        have hsls := F.sub_list_set
        have hslf := F.sub_list_frozenset
        have hne : (Value.type "list" == Value.type "dict") = false := by decide
        have hl1 : (s.heap.push { cls := .type "set", dict := none, data := .set #[] 0 (.fresh 0 0 (!w.params.followText "set-order")) }).IsList l items := ⟨_, hol', rfl, nl, rfl⟩
        unfold Builtin.«set.__init__» noKeywords Builtin.Frozenset.updateFrom
        generalize hPI : pyIter = PI
        wp_walk
        subst hPI

        refine wpAny_pyIter_list hl1 ?_
        refine wpAny_bind (wpAny_runValue ?_)
        have hlS : l < s.heap.objs.size := Heap.lt_size hol
        have hh3 : A.in1.in1.in1.handled = none := by simp [hh]
        have hz1 : (s.heap.push { cls := .type "set", dict := none, data := .set #[] 0 (.fresh 0 0 (!w.params.followText "set-order")) }).objs.size = s.heap.objs.size + 1 := Heap.size_push ..
        have hneI : l ≠ (s.heap.push { cls := .type "set", dict := none, data := .set #[] 0 (.fresh 0 0 (!w.params.followText "set-order")) }).objs.size := by
          rw [Heap.size_push]; exact Nat.ne_of_lt (Nat.lt_succ_of_lt hlS)
        have hSf : s.heap.objs.size ∉ [(s.heap.push { cls := .type "set", dict := none, data := .set #[] 0 (.fresh 0 0 (!w.params.followText "set-order")) }).objs.size, l] := by
          rw [Heap.size_push]; simp only [List.mem_cons, List.mem_singleton, List.not_mem_nil, or_false, not_or]
          exact ⟨Nat.ne_of_lt (Nat.lt_succ_self _), Nat.ne_of_gt hlS⟩
        have hval : ∀ (i : Nat) (v : Value), items[i]? = some v → ∃ k t, ns[i]? = some k ∧ v = .int k t := fun i v hv => by
          have hi : i < ns.length := by rw [← hisz]; exact (Array.getElem?_eq_some_iff.mp hv).1
          obtain ⟨t, e⟩ := PyProof.Rows.IntsAre.int_at hit i v (by rw [Array.getElem?_toList]; exact hv)
          refine ⟨ns[i], t, List.getElem?_eq_getElem hi, ?_⟩
          rw [e, List.getD_eq_getElem?_getD, List.getElem?_eq_getElem hi] <;> rfl
        refine set_update_ints ((Walks.list hh3 _ l hneI items).toS) s.heap.objs.size
          hSf ns hisz hb hval (items.size - 0) 0 _ (by omega) (Nat.zero_le _)
          ⟨⟨_, Heap.get?_push_size _ rfl, rfl, rfl⟩, (hl1.push _)⟩ ?hS0 ?hR
        case hS0 =>
          have hget : ((s.heap.push { cls := .type "set", dict := none, data := .set #[] 0 (.fresh 0 0 (!w.params.followText "set-order")) }).push { cls := .type "list_iterator", data := .fields #[.ref l, .int 0 0] }).get? s.heap.objs.size
              = some { cls := .type "set", dict := none, data := .set #[] 0 (.fresh 0 0 (!w.params.followText "set-order")) } := Heap.get?_push_of_some _ hS
          exact ⟨0, Nat.le_refl 0, setR_new_at hget⟩
        case hR =>
          intro s' c' hm hc' hS'
          obtain ⟨h', g2, d', tk', os'⟩ := s'
          have eg : g2 = s.gens := hm.gens
          have ed : d' = s.drawn := hm.drawn
          have eo : os' = s.os := hm.os
          subst eg; subst ed; subst eo
          show wpAny _ _ _ _ _ _
          refine wpAny_pure ?_
          show wpAny _ _ (ret Value.none) _ _ _
          rw [hisz] at hc'
          refine wpAny_pure ⟨rfl, h', tk', c', rfl, hS', hc', fun b o e => ?_⟩
          have hb0 : b < s.heap.objs.size := Heap.lt_size e
          have hb1 : b ≠ s.heap.objs.size := Nat.ne_of_lt hb0
          have hb2 : b ≠ (s.heap.push { cls := .type "set", dict := none, data := .set #[] 0 (.fresh 0 0 (!w.params.followText "set-order")) }).objs.size := by
            rw [Heap.size_push]; exact Nat.ne_of_lt (Nat.lt_succ_of_lt hb0)
          exact hm.heap b o (by simp only [List.mem_cons, List.mem_singleton, List.not_mem_nil, or_false, not_or]; exact ⟨hb1, hb2⟩) (Heap.get?_push_of_some _ (Heap.get?_push_of_some _ e))

      · cases r₂ with
        | error e => exact hr₂
        | ok fl₂ =>
          cases fl₂ with
          | ret r =>
            obtain ⟨rfl, h', tk, c', rfl, hS', hc', hk'⟩ := hr₂
            repeat (any_goals (first | assumption | wp_step))
            exact h _ _ _ hS' hc' hk'
          | _ => exact hr₂.elim
    | _ => exact hr.elim


end
end L2
namespace VL
open PySem PySem.Spec PyProof.Rows L2
variable {md : Md}

def rSetL (K : PySem.W.Frag) (w : World) : List V → Hp → VK → Prop := fun xs H Q => ∃ (l : Addr) (ns : List Int), xs = [.ref l] ∧ SqL K H l (ns.map V.int) ∧ ns.length + 1 < scanBound ∧ ∀ p c, H p = none → c ≤ ns.length → Q (.ref p) (upd H p (SetO w p (fun j => decide (j ∈ ns)) c))
theorem cr_setL {X : Cx} (hc : X.calm = true) : CallR X (.type "set") (rSetL X.K X.w) := by
  intro pins s σ H xs us Q I r h
  obtain ⟨l, ns, rfl, hs, hb, q⟩ := h
  rw [Vals.ref1 r]
  obtain ⟨its, rv, pl, hz⟩ := I.list hs
  refine call_set_listI ns (I.ok.hd hc) pl.isList (by simpa using ints_of_vals rv) hb fun h' tk c hS hc' hk => ?_
  exact ⟨.ref _, upd H s.heap.objs.size (SetO X.w s.heap.objs.size (fun j => decide (j ∈ ns)) c), I.laid (t' := tk) hk (Nat.le_refl _) (setO_new hS), rfl, q _ c (I.hok.fresh (Nat.le_refl _)) hc'⟩
def insSet (x : Int) : List Int → List Int
  | [] => [x]
  | y :: r => if y < x then y :: insSet x r else if y = x then y :: r else x :: y :: r
def sortSet : List Int → List Int
  | [] => []
  | x :: r => insSet x (sortSet r)
theorem insSet_mem (x : Int) : ∀ (l : List Int) (k : Int), k ∈ insSet x l ↔ k = x ∨ k ∈ l
  | [], k => by simp [insSet]
  | y :: r, k => by
    unfold insSet
    split
    · rw [List.mem_cons, insSet_mem x r k, List.mem_cons]
      constructor
      · rintro (h | h | h)
        · exact .inr (.inl h)
        · exact .inl h
        · exact .inr (.inr h)
      · rintro (h | h | h)
        · exact .inr (.inl h)
        · exact .inl h
        · exact .inr (.inr h)
    · split
      · rename_i e
        rw [e, List.mem_cons]
        constructor
        · exact fun h => .inr h
        · rintro (h | h)
          · exact .inl h
          · exact h
      · rw [List.mem_cons]
theorem sortSet_mem : ∀ (l : List Int) (k : Int), k ∈ sortSet l ↔ k ∈ l
  | [], k => by simp [sortSet]
  | x :: r, k => by
    unfold sortSet
    rw [insSet_mem, sortSet_mem r k, List.mem_cons]
theorem insSet_lt (x : Int) : ∀ {l : List Int}, l.Pairwise (· < ·) → (insSet x l).Pairwise (· < ·)
  | [], _ => List.pairwise_singleton _ _
  | y :: r, h => by
    obtain ⟨h1, h2⟩ := List.pairwise_cons.mp h
    unfold insSet
    split
    · rename_i q
      refine List.pairwise_cons.mpr ⟨fun z hz => ?_, insSet_lt x h2⟩
      rcases (insSet_mem x r z).mp hz with e | e
      · rw [e]; exact q
      · exact h1 z e
    · split
      · exact h
      · refine List.pairwise_cons.mpr ⟨fun z hz => ?_, h⟩
        rcases List.mem_cons.mp hz with e | e
        · rw [e]; omega
        · have := h1 z e; omega
theorem sortSet_lt : ∀ l : List Int, (sortSet l).Pairwise (· < ·)
  | [] => List.Pairwise.nil
  | x :: r => insSet_lt x (sortSet_lt r)
theorem lt_unique : ∀ {a b : List Int}, a.Pairwise (· < ·) → b.Pairwise (· < ·) → (∀ k, k ∈ a ↔ k ∈ b) → a = b
  | [], [], _, _, _ => rfl
  | [], y :: b, _, _, h => absurd ((h y).mpr List.mem_cons_self) (by simp)
  | x :: a, [], _, _, h => absurd ((h x).mp List.mem_cons_self) (by simp)
  | x :: a, y :: b, ha, hb, h => by
    obtain ⟨a1, a2⟩ := List.pairwise_cons.mp ha
    obtain ⟨b1, b2⟩ := List.pairwise_cons.mp hb
    have e : x = y := by
      rcases List.mem_cons.mp ((h x).mp List.mem_cons_self) with z | z
      · exact z
      · rcases List.mem_cons.mp ((h y).mpr List.mem_cons_self) with w | w
        · exact w.symm
        · have := b1 x z; have := a1 y w; omega
    subst e
    rw [lt_unique a2 b2 fun k => ?_]
    have := h k
    rw [List.mem_cons, List.mem_cons] at this
    constructor
    · intro z
      rcases this.mp (.inr z) with e | e
      · have := a1 k z; omega
      · exact e
    · intro z
      rcases this.mpr (.inr z) with e | e
      · have := b1 k z; omega
      · exact e
theorem insSet_len (x : Int) : ∀ l : List Int, (insSet x l).length ≤ l.length + 1
  | [] => by simp [insSet]
  | y :: r => by
    unfold insSet
    have := insSet_len x r
    split
    · simp; omega
    · split <;> simp
theorem sortSet_len : ∀ l : List Int, (sortSet l).length ≤ l.length
  | [] => by simp [sortSet]
  | x :: r => by
    unfold sortSet
    have := insSet_len x (sortSet r)
    have := sortSet_len r
    rw [List.length_cons]; omega
def dSet (d : D) : R D := match d with
  | .lst ds => match intsOf ds with
    | some ns => if ns.length ≤ 63 then .ok (.lst ((sortSet ns).map D.int)) else .stuck
    | none => .stuck
  | _ => .stuck
section
variable {X : Cx} {E : En} {ks : List Kd} {e o : Expr} {g ga gb : Sl → R D} {p p1 p2 q pos apos cpos : Pos}
theorem se_sortedSet (B : Bl X.mg) (he : SE X E ks .bor e g) (hc : X.calm = true := by rfl) (hg : Gl X "sorted" := by rfl) (hg2 : Gl X "set" := by rfl)
    (hs : starEach [.Call (.Name "set" p2) [e] [] q] X.env = (false, eval (.Call (.Name "set" p2) [e] [] q) X.env) :: starEach [] X.env := by rfl) (hs2 : starEach [e] X.env = (false, eval e X.env) :: starEach [] X.env := by rfl)
    (hpl : (backTo pos (starEach [] X.env)).any (·.1) = false := by rfl) (hpl2 : (backTo q (starEach [] X.env)).any (·.1) = false := by rfl) :
    SE X E ks (.own none) (.Call (.Name "sorted" p1) [.Call (.Name "set" p2) [e] [] q] [] pos) (gUn dSet g) := by
  refine ⟨fun Hs H r σ W Q tk S P => ?_⟩
  refine we_of (pe_callB (cr_sortedSet hc) hg B.sorted bb_sorted (pa_cons (pe_callTy (cr_setL hc) hg2 B.set bb_set (pa_cons pe_we pa_nil hs2) (by decide) (by decide) hs2 hpl2) pa_nil hs) (by decide) (by decide) hs hpl) ?_
  refine he.run _ _ _ _ _ _ tk S (P.imp fun d v Hs1 H1 e1 g1 k1 P1 => ?_)
  unfold dSet at P1
  cases d <;> first | exact P1.elim | skip
  dsimp only at P1
  split at P1
  · rename_i ns qn
    split at P1
    · rename_i hl
      obtain ⟨a, rfl, h1⟩ := k1.rb.intsInv g1.sub qn
      refine ⟨a, ns, rfl, SqL.of h1, by unfold scanBound; omega, fun p c hp hc => ?_⟩
      have g2 := Grow.fresh (o := SetO X.w p (fun j => decide (j ∈ ns)) c) g1.sub hp
      refine ⟨p, _, c, rfl, upd_same, by omega, fun ns' p' pw hm hlen hp' => ?_⟩
      have z : ns' = sortSet ns := lt_unique pw (sortSet_lt ns) fun k => by rw [hm k, sortSet_mem]; simp
      rw [z]
      exact (P1.grow g2).finL g2.sub hp' (RepL.ofInts _)
    · exact P1.elim
  · exact P1.elim
end
end VL
end

noncomputable section
namespace VL
open PySem PySem.Spec PyProof.Rows L2
variable {md : Md}

def valD (ds : List (Key × D)) (k : Key) : Option D := (ds.find? fun kv => decide (kv.1 = k)).map (·.2)
theorem valD_pos {p : Key × D} {r : List (Key × D)} {k : Key} (e : p.1 = k) : valD (p :: r) k = some p.2 := by simp [valD, List.find?_cons, e]
theorem valD_neg {p : Key × D} {r : List (Key × D)} {k : Key} (e : ¬ p.1 = k) : valD (p :: r) k = valD r k := by simp [valD, List.find?_cons, e]
def putD (ds : List (Key × D)) (k : Key) (d : D) : List (Key × D) :=
  if (ds.any fun kv => decide (kv.1 = k)) = true then ds.map (fun kv => if kv.1 = k then (kv.1, d) else kv) else ds ++ [(k, d)]
section
variable {cl : Cl} {H : Hp}
theorem RepK.len : ∀ {ds : List (Key × D)} {xs : List (Key × V)}, RepK cl H ds xs → xs.length = ds.length
  | [], _, h => by cases h; rfl
  | _ :: _, _, h => by
    cases h with
    | cons _ h2 => rw [List.length_cons, List.length_cons, RepK.len h2]
theorem RepK.get : ∀ {ds : List (Key × D)} {xs : List (Key × V)} {i : Nat} {p : Key × D}, RepK cl H ds xs → ds[i]? = some p → ∃ v, xs[i]? = some (p.1, v) ∧ Rep cl H p.2 v
  | [], _, _, _, _, e => by simp at e
  | _ :: _, _, 0, _, h, e => by
    cases h with
    | cons h1 h2 => cases e; exact ⟨_, rfl, h1⟩
  | _ :: _, _, i + 1, _, h, e => by
    cases h with
    | cons h1 h2 => exact RepK.get (i := i) h2 e
theorem RepK.app : ∀ {ds es : List (Key × D)} {xs ys : List (Key × V)}, RepK cl H ds xs → RepK cl H es ys → RepK cl H (ds ++ es) (xs ++ ys)
  | [], _, _, _, h, g => by cases h; exact g
  | _ :: _, _, _, _, h, g => by
    cases h with
    | cons h1 h2 => exact .cons h1 (RepK.app h2 g)
theorem RepK.any (k : Key) : ∀ {ds : List (Key × D)} {xs : List (Key × V)}, RepK cl H ds xs → (xs.any fun kv => decide (kv.1 = k)) = ds.any fun kv => decide (kv.1 = k)
  | [], _, h => by cases h; rfl
  | _ :: _, _, h => by
    cases h with
    | cons h1 h2 => rw [List.any_cons, List.any_cons, RepK.any k h2]
theorem RepK.map (k : Key) {d : D} {v : V} (r : Rep cl H d v) : ∀ {ds : List (Key × D)} {xs : List (Key × V)}, RepK cl H ds xs → RepK cl H (ds.map fun kv => if kv.1 = k then (kv.1, d) else kv) (xs.map fun kv => if kv.1 = k then (kv.1, v) else kv)
  | [], _, h => by cases h; exact .nil
  | (k0, d0) :: _, _, h => by
    cases h with
    | cons h1 h2 =>
      rw [List.map_cons, List.map_cons]
      by_cases c : k0 = k
      · rw [if_pos c, if_pos c]; exact .cons r (RepK.map k r h2)
      · rw [if_neg c, if_neg c]; exact .cons h1 (RepK.map k r h2)
theorem RepK.put {ds : List (Key × D)} {xs : List (Key × V)} (h : RepK cl H ds xs) (k : Key) {d : D} {v : V} (r : Rep cl H d v) : RepK cl H (putD ds k d) (putK xs k v) := by
  unfold putD putK
  rw [h.any k]
  split
  · exact h.map k r
  · exact h.app (.cons r .nil)
theorem RepK.val (k : Key) : ∀ {ds : List (Key × D)} {xs : List (Key × V)}, RepK cl H ds xs → ∀ {d0 : D} {v0 : V}, Rep cl H d0 v0 → Rep cl H ((valD ds k).getD d0) ((valV xs k).getD v0)
  | [], _, h, _, _, r => by cases h; exact r
  | (k0, d0) :: _, _, h, _, _, r => by
    cases h with
    | cons h1 h2 =>
      by_cases c : k0 = k
      · rw [valD_pos c, valV_pos c]; exact h1
      · rw [valD_neg c, valV_neg c]; exact RepK.val k h2 r
end
section
variable {E : En} {Hs H : Hp} {ks : List Kd} {r : Sl} {σ : L2.St}
theorem Slots.monoB {E' : En} (c : E'.cl = E.cl) (n : E'.h = E.h) (b : Same E.b E'.b) {H' : Hp} : ∀ {ks : List Kd} {r : Sl} {t : L2.St} {As : List Addr}, (∀ a ∈ As, H' a = H a) → Slots E Hs H ks r t As → Slots E' Hs H' ks r t As
  | _, _, _, _, _, .nil => .nil
  | _, _, _, _, k, .skip h => .skip (Slots.monoB c n b k h)
  | _, _, _, _, k, .cons h1 h2 => .cons (by rw [c]; exact ORep.mono (Same.refl _) b (fun a z => by show E'.h a = none; rw [n]; exact z) _ _ _ _ (fun a ha => k a (List.mem_append_left _ ha)) h1) (Slots.monoB c n b (fun a ha => k a (List.mem_append_right _ ha)) h2)
/-- the dict in slot i is locked: its name holds an address alone -/
theorem StRel.lock {i : Nat} {n : Option Addr} {ds : List (Key × D)} (S : StRel E Hs H ks r σ) (hk : ks[i]? = some (.own n)) (hd : r[i]? = some (some (.dct ds))) :
    ∃ a xs, σ[i]? = some (some (.ref a)) ∧ H a = some (.dK xs) ∧ RepK E.cl Hs ds xs ∧ Hs a = none ∧
      ∀ od, StRel ⟨E.cl, E.h, Hs, upd E.b a (.frz od (.dK xs))⟩ Hs (upd H a (.frz od (.dK xs))) (ks.set i (.adr a)) (r.set i (some .non)) σ := by
  obtain ⟨As, S⟩ := S
  obtain ⟨pre, A, post, e, q1, q2, _, _⟩ := S.sl.at_ i hk
  obtain ⟨v, ev, o⟩ := q1 _ hd
  cases o with
  | ownV h0 h1 => cases h0
  | ownK h0 h1 h2 =>
    rename_i a xs
    have ha : a ∈ As := by rw [e]; exact List.mem_append_right _ (List.mem_append_left _ (by simp))
    have dz := S.dis a ha
    refine ⟨a, xs, ev, h1, h2, dz.1, fun od => ?_⟩
    have nd := S.nd
    rw [e] at nd
    have hn : ∀ b ∈ pre ++ post, b ≠ a := fun b hb z => by
      subst z
      rcases List.mem_append.mp hb with w | w
      · exact (List.nodup_append.mp nd).2.2 _ w _ (List.mem_append_left _ (by simp)) rfl
      · exact (List.nodup_append.mp (List.nodup_append.mp nd).2.1).2.2 _ (by simp) _ w rfl
    have z0 := q2 (.adr a) .non (.ref a) [] .adr
    have e3 : σ.set i (some (.ref a)) = σ := by
      obtain ⟨h, e2⟩ := List.getElem?_eq_some_iff.mp ev
      rw [← e2, List.set_getElem_self]
    rw [e3, List.nil_append] at z0
    have bs : Same E.b (upd E.b a (.frz od (.dK xs))) := Same.updNew dz.2
    have z := Slots.monoB (E := E) (E' := ⟨E.cl, E.h, Hs, upd E.b a (.frz od (.dK xs))⟩) (H' := upd H a (.frz od (.dK xs))) rfl rfl bs (fun b hb => upd_ne (hn b hb)) z0
    have sub : (pre ++ post).Sublist As := by
      rw [e]
      exact List.Sublist.append (List.Sublist.refl _) (List.sublist_append_right _ _)
    refine ⟨_, z, S.nd.sublist sub, fun b hb => ⟨(S.dis b (sub.subset hb)).1, ?_⟩, Same.refl _, ⟨fun b u q nt => ?_⟩, S.eb.updBoth, fun b z => .inl z, fun b q => ?_, fun P z => tab_mut h1 P (S.tb P z)⟩
    · show upd E.b a _ b = none
      rw [upd_ne (hn b hb)]
      exact (S.dis b (sub.subset hb)).2
    · have : b ≠ a := fun w => by rw [w, dz.1] at q; cases q
      rw [upd_ne this] at nt ⊢
      exact S.sub.k _ _ q nt
    · have : b ≠ a := fun w => by rw [w, upd_same] at q; cases q
      rw [upd_ne this] at q
      exact S.dom _ q
end
section
variable {X : Cx} {E : En} {kr : Kd} {fin : List Kd → Prop} {ks ks' : List Kd} {e f b : Expr} {ge gf gb g : Sl → R D} {pos p1 p2 apos cpos : Pos}
end
end VL
end

noncomputable section
namespace VL
open PySem PySem.Spec PyProof.Rows L2
variable {md : Md}

section
variable {X : Cx} {E : En} {ks : List Kd} {a b : Expr} {ga gb : Sl → R D} {p p2 q pos : Pos}
end
end VL
end

noncomputable section
namespace VL
open PySem PySem.Spec PyProof.Rows L2
variable {md : Md}

theorem ItOk.rev {K : PySem.W.Frag} {cl : Cl} {a : Addr} {xs : List V} {ds : List D} {Hs Bq : Hp} (rp : RepL cl Hs ds xs) (rt : ∀ Hs' H, Same Hs Hs' → Same Hs' H → Same Bq H → H a = some (.lst xs)) (hz : xs.length ≤ szL) : ItOk cl (Itv K a xs.length) ds.reverse Hs Bq where
  len := by rw [List.length_reverse, ← rp.length]; exact hz
  go := fun Hs' H e1 e2 e3 i hi => by
    rw [List.length_reverse, ← rp.length] at hi
    exact ⟨hi, xs, xs[xs.length - 1 - i], SqL.of (rt Hs' H e1 e2 e3), List.getElem?_eq_getElem (by omega)⟩
  stop := fun Hs' H e1 e2 e3 => by rw [List.length_reverse, ← rp.length]; exact Nat.le_refl _
  yld := fun Hs' H e1 e2 e3 i d x H' hd y => by
    obtain ⟨rfl, y⟩ := y
    have hi : i < ds.length := by
      have := (List.getElem?_eq_some_iff.mp hd).1
      rwa [List.length_reverse] at this
    rw [List.getElem?_reverse hi] at hd
    obtain ⟨v, e, r⟩ := rp.get hd
    have q := y xs (SqL.of (rt Hs' _ e1 e2 e3))
    rw [rp.length, e] at q
    cases q
    exact ⟨Hs', Grow.refl e2, Rep.same e1 _ _ r⟩
section
variable {X : Cx} {E : En} {ks : List Kd} {md : Bool} {tg e : Expr} {g : Sl → R D} {p pos : Pos}
end
end VL
end

noncomputable section
namespace VL
open PySem PySem.Spec PyProof.Rows L2
variable {md : Md}

def sans (H : Hp) (A : List Addr) : Hp := fun a => if a ∈ A then none else H a
section
variable {H H' Hs : Hp} {A : List Addr} {a : Addr}
theorem sans_in (h : a ∈ A) : sans H A a = none := by unfold sans; rw [if_pos h]
theorem sans_out (h : a ∉ A) : sans H A a = H a := by unfold sans; rw [if_neg h]
theorem sans_none (h : sans H A a = none) : a ∈ A ∨ H a = none := by
  by_cases z : a ∈ A
  · exact .inl z
  · rw [sans_out z] at h; exact .inr h
theorem sans_sub (e : Same Hs H) (z : ∀ a ∈ A, Hs a = none) : Same Hs (sans H A) := ⟨fun b o q nt => by
  have hn : b ∉ A := fun w => by rw [z b w] at q; cases q
  rw [sans_out hn] at nt ⊢
  exact e.k _ _ q nt⟩
end
/-- no list, dict or instance is a code object -/
def Dat (o : HO) : Prop := NT o ∧ ∀ c q, o ≠ LamX.CodeO c q
mutual
theorem ORep.dat {cl : Cl} {N : Addr → Prop} {B Hs H : Hp} : ∀ (k : Kd) (d : D) (v : V) (A : List Addr), ORep cl N B Hs H k d v A → ∀ a ∈ A, (∃ o, H a = some o ∧ Dat o) ∧ N a
  | .val, _, _, _, h => by cases h; intro a z; cases z
  | .bor, _, _, _, h => by cases h <;> (intro a z; cases z)
  | .own n, _, _, _, h => by
    cases h with
    | ownL h0 h1 _ => intro a z; simp at z; subst z; exact ⟨⟨_, h1, (by intro _ z; cases z), by intro _ _ z; unfold LamX.CodeO at z; cases z⟩, h0.1⟩
    | ownK h0 h1 _ => intro a z; simp at z; subst z; exact ⟨⟨_, h1, (by intro _ z; cases z), by intro _ _ z; unfold LamX.CodeO at z; cases z⟩, h0.1⟩
    | ownV _ _ => intro a z; cases z
  | .obj n ks, _, _, _, h => by
    cases h with
    | obj h0 _ h2 h3 =>
      intro a z
      rcases List.mem_cons.mp z with e | z
      · rw [e]; exact ⟨⟨_, h2, (by intro _ z; cases z), by intro _ _ z; unfold LamX.CodeO at z; cases z⟩, h0.1⟩
      · exact OFs.dat ks _ _ _ h3 a z
  | .adr a, _, _, _, h => by cases h; intro a z; cases z
  | .lls n k, _, _, _, h => by
    cases h with
    | lls h0 h1 h2 =>
      intro a z
      rcases List.mem_cons.mp z with e | z
      · rw [e]; exact ⟨⟨_, h1, (by intro _ z; cases z), by intro _ _ z; unfold LamX.CodeO at z; cases z⟩, h0.1⟩
      · exact OLs.all (P := fun a => (∃ o, H a = some o ∧ Dat o) ∧ N a) (fun d v A o => ORep.dat k d v A o) h2 a z
    | llT h0 h1 h2 =>
      intro a z
      rcases List.mem_cons.mp z with e | z
      · rw [e]; exact ⟨⟨_, h1, (by intro _ z; cases z), by intro _ _ z; unfold LamX.CodeO at z; cases z⟩, h0.1⟩
      · exact OLs.all (P := fun a => (∃ o, H a = some o ∧ Dat o) ∧ N a) (fun d v A o => ORep.dat k d v A o) h2 a z
    | llV _ _ => intro a z; cases z
theorem OFs.dat {cl : Cl} {N : Addr → Prop} {B Hs H : Hp} : ∀ (ks : List (Str × Kd)) (ds : List (Str × D)) (xs : List (Str × V)) (A : List Addr), OFs cl N B Hs H ks ds xs A → ∀ a ∈ A, (∃ o, H a = some o ∧ Dat o) ∧ N a
  | [], _, _, _, h => by cases h; intro a z; cases z
  | (f, k) :: ks, _, _, _, h => by
    cases h with
    | cons h1 h2 =>
      intro a z
      rcases List.mem_append.mp z with z | z
      · exact ORep.dat k _ _ _ h1 a z
      · exact OFs.dat ks _ _ _ h2 a z
end
section
variable {cl : Cl} {N N' : Addr → Prop} {B B' Hs H : Hp}
mutual
/-- another way to say what is new -/
theorem ORep.renew : ∀ (k : Kd) (d : D) (v : V) (A : List Addr), k.fine = true → (∀ a ∈ A, N' a) → ORep cl N B Hs H k d v A → ORep cl N' B' Hs H k d v A
  | .val, _, _, _, _, _, h => by
    cases h with
    | val h1 => exact .val h1
  | .bor, _, _, _, z, _, _ => by cases z
  | .own n, _, _, _, _, z, h => by
    cases h with
    | ownL h0 h1 h2 => exact .ownL ⟨z _ List.mem_cons_self, h0.2⟩ h1 h2
    | ownK h0 h1 h2 => exact .ownK ⟨z _ List.mem_cons_self, h0.2⟩ h1 h2
    | ownV h0 h1 => exact .ownV h0 h1
  | .obj n ks, _, _, _, f, z, h => by
    cases h with
    | obj h0 h1 h2 h3 => exact .obj ⟨z _ List.mem_cons_self, h0.2⟩ h1 h2 (OFs.renew ks _ _ _ (by simpa [Kd.fine] using f) (fun a ha => z a (List.mem_cons_of_mem _ ha)) h3)
  | .adr _, _, _, _, z, _, _ => by cases z
  | .lls n k, _, _, _, f, z, h => by
    cases h with
    | lls h0 h1 h2 => exact .lls ⟨z _ List.mem_cons_self, h0.2⟩ h1 (OLs.imp (fun A => ∀ a ∈ A, N' a) (fun _ _ t a ha => t a (List.mem_append_left _ ha)) (fun _ _ t a ha => t a (List.mem_append_right _ ha)) (fun d v A t o => ORep.renew k d v A f t o) (fun a ha => z a (List.mem_cons_of_mem _ ha)) h2)
    | llT h0 h1 h2 => exact .llT ⟨z _ List.mem_cons_self, h0.2⟩ h1 (OLs.imp (fun A => ∀ a ∈ A, N' a) (fun _ _ t a ha => t a (List.mem_append_left _ ha)) (fun _ _ t a ha => t a (List.mem_append_right _ ha)) (fun d v A t o => ORep.renew k d v A f t o) (fun a ha => z a (List.mem_cons_of_mem _ ha)) h2)
    | llV h0 h1 => exact .llV h0 h1
theorem OFs.renew : ∀ (ks : List (Str × Kd)) (ds : List (Str × D)) (xs : List (Str × V)) (A : List Addr), Kd.fine.fines ks = true → (∀ a ∈ A, N' a) → OFs cl N B Hs H ks ds xs A → OFs cl N' B' Hs H ks ds xs A
  | [], _, _, _, _, _, h => by cases h; exact .nil
  | (f, k) :: ks, _, _, _, fz, z, h => by
    have z' : k.fine = true ∧ Kd.fine.fines ks = true := by simpa [Kd.fine.fines] using fz
    cases h with
    | cons h1 h2 => exact .cons (ORep.renew k _ _ _ z'.1 (fun a ha => z a (List.mem_append_left _ ha)) h1) (OFs.renew ks _ _ _ z'.2 (fun a ha => z a (List.mem_append_right _ ha)) h2)
end
/-- several things that are lent -/
inductive RM (cl : Cl) (N : Addr → Prop) (B Hs H : Hp) : List Kd → List D → List V → List Addr → Prop
  | nil : RM cl N B Hs H [] [] [] []
  | cons {k : Kd} {d : D} {v : V} {A As : List Addr} {ks : List Kd} {ds : List D} {vs : List V} : ORep cl N B Hs H k d v A → RM cl N B Hs H ks ds vs As → RM cl N B Hs H (k :: ks) (d :: ds) (v :: vs) (A ++ As)
theorem RM.renew : ∀ {ks : List Kd} {ds : List D} {vs : List V} {A : List Addr}, ks.all Kd.fine = true → (∀ a ∈ A, N' a) → RM cl N B Hs H ks ds vs A → RM cl N' B' Hs H ks ds vs A
  | _, _, _, _, _, _, .nil => .nil
  | _, _, _, _, f, z, .cons o t => by
    have f' := f
    rw [List.all_cons, Bool.and_eq_true] at f'
    exact .cons (ORep.renew _ _ _ _ f'.1 (fun a ha => z a (List.mem_append_left _ ha)) o) (RM.renew f'.2 (fun a ha => z a (List.mem_append_right _ ha)) t)
theorem RM.dat : ∀ {ks : List Kd} {ds : List D} {vs : List V} {A : List Addr}, RM cl N B Hs H ks ds vs A → ∀ a ∈ A, (∃ o, H a = some o ∧ Dat o) ∧ N a
  | _, _, _, _, .nil => fun a z => nomatch z
  | _, _, _, _, .cons o t => fun a z => by
    rcases List.mem_append.mp z with z | z
    · exact ORep.dat _ _ _ _ o a z
    · exact RM.dat t a z
theorem RM.mono {Hs' H' : Hp} (e : Same Hs Hs') : ∀ {ks : List Kd} {ds : List D} {vs : List V} {A : List Addr}, (∀ a ∈ A, H' a = H a) → RM cl N B Hs H ks ds vs A → RM cl N B Hs' H' ks ds vs A
  | _, _, _, _, _, .nil => .nil
  | _, _, _, _, q, .cons o t => .cons (ORep.mono e (Same.refl _) (fun _ z => z) _ _ _ _ (fun a ha => q a (List.mem_append_left _ ha)) o) (RM.mono e (fun a ha => q a (List.mem_append_right _ ha)) t)
theorem RM.len : ∀ {ks : List Kd} {ds : List D} {vs : List V} {A : List Addr}, RM cl N B Hs H ks ds vs A → ds.length = ks.length ∧ vs.length = ks.length
  | _, _, _, _, .nil => ⟨rfl, rfl⟩
  | _, _, _, _, .cons o t => by simp [RM.len t]
end
theorem tab_sans {H : Hp} {A : List Addr} (z : ∀ a ∈ A, ∃ o, H a = some o ∧ Dat o) (P : Addr) (t : LamX.TabS H P lamQ) : LamX.TabS (sans H A) P lamQ := by
  obtain ⟨ps, h1, h2, h3⟩ := t
  have e : ∀ b u, H b = some u → ¬ Dat u → sans H A b = some u := fun b u q n => by
    by_cases w : b ∈ A
    · obtain ⟨o, e1, e2⟩ := z b w
      rw [q] at e1
      cases e1
      exact (n e2).elim
    · rw [sans_out w]; exact q
  refine ⟨ps, e _ _ h1 fun w => w.1 ps rfl, h2, fun pos cv hc => ?_⟩
  obtain ⟨c, e1, e2⟩ := h3 pos cv hc
  exact ⟨c, e1, e _ _ e2 fun w => w.2 c lamQ rfl⟩

section
variable {E : En} {Hs H Hs' H' : Hp} {ks : List Kd} {r : Sl} {σ : L2.St} {As : List Addr}
theorem Slots.front : ∀ {kf : List Kd} {df : List D} {uf : List V} {As : List Addr}, df.length = kf.length → uf.length = kf.length → Slots E Hs H (kf ++ ks) (df.map some ++ r) (uf.map some ++ σ) As → ∃ Af Ar, As = Af ++ Ar ∧ RM E.cl E.N E.b Hs H kf df uf Af ∧ Slots E Hs H ks r σ Ar
  | [], [], [], As, _, _, h => ⟨[], As, rfl, .nil, h⟩
  | k :: kf, d :: df, u :: uf, As, l1, l2, h => by
    cases h with
    | cons o t =>
      obtain ⟨Af, Ar, e, m, s⟩ := Slots.front (by simpa using l1) (by simpa using l2) t
      exact ⟨_ ++ Af, Ar, by rw [e, List.append_assoc], .cons o m, s⟩
  | [], _ :: _, _, _, l1, _, _ => by cases l1
  | [], [], _ :: _, _, _, l2, _ => by cases l2
  | _ :: _, [], _, _, l1, _, _ => by cases l1
  | _ :: _, _ :: _, [], _, _, l2, _ => by cases l2
theorem Slots.join : ∀ {kf : List Kd} {df : List D} {uf : List V} {Af Ar : List Addr}, RM E.cl E.N E.b Hs H kf df uf Af → Slots E Hs H ks r σ Ar → Slots E Hs H (kf ++ ks) (df.map some ++ r) (uf.map some ++ σ) (Af ++ Ar)
  | _, _, _, _, _, .nil, s => s
  | _, _, _, _, _, .cons o m, s => by
    rw [List.append_assoc]
    exact .cons o (Slots.join m s)
theorem StRel.pop {k : Kd} {o : Option D} {v : Option V} (S : StRel E Hs H (k :: ks) (o :: r) (v :: σ)) : StRel E Hs H ks r σ := by
  obtain ⟨As, S⟩ := S
  have sl := S.sl
  cases sl with
  | skip t => exact ⟨_, t, S.nd, S.dis, S.es, S.sub, S.eb, S.new, S.dom, S.tb⟩
  | cons o t => exact ⟨_, t, (List.nodup_append.mp S.nd).2.1, fun a ha => S.dis a (List.mem_append_right _ ha), S.es, S.sub, S.eb, S.new, S.dom, S.tb⟩
/-- the front's value goes to slot i -/
theorem StRel.settle {k k0 : Kd} {d : D} {v : V} {i : Nat} (S : StRel E Hs H (k :: ks) (some d :: r) (some v :: σ)) (hk : ks[i]? = some k0) : StRel E Hs H (ks.set i k) (r.set i (some d)) (σ.set i (some v)) := by
  obtain ⟨As, S⟩ := S
  have sl := S.sl
  cases sl with
  | cons o t =>
    rename_i A Ar
    obtain ⟨pre, A0, post, e, _, q, _, _⟩ := t.at_ i hk
    have nd := S.nd
    subst e
    have p1 : (pre ++ (A ++ post)).Perm (A ++ (pre ++ post)) := by
      rw [← List.append_assoc, ← List.append_assoc]
      exact List.Perm.append_right _ List.perm_append_comm
    have s1 : (A ++ (pre ++ post)).Sublist (A ++ (pre ++ (A0 ++ post))) := List.Sublist.append (List.Sublist.refl _) (List.Sublist.append (List.Sublist.refl _) (List.sublist_append_right _ _))
    exact ⟨_, q k d v A o, p1.nodup_iff.mpr (nd.sublist s1), fun a ha => S.dis a (s1.subset (p1.mem_iff.mp ha)), S.es, S.sub, S.eb, S.new, S.dom, S.tb⟩
theorem grow_sans {Af : List Addr} (g : Grow Hs (sans H Af) Hs' H') {a : Addr} {o : HO} (h : H a = some o) (nt : NT o) (hn : a ∉ Af) : H' a = some o := g.h.at a o (by rw [sans_out hn]; exact h) nt
/-- the front is lent and comes back otherwise -/
theorem StRel.lend {kf : List Kd} {df : List D} {uf : List V} (S : StRel E Hs H (kf ++ ks) (df.map some ++ r) (uf.map some ++ σ)) (l1 : df.length = kf.length) (l2 : uf.length = kf.length) (fk : kf.all Kd.fine = true) :
    ∃ Af, RM E.cl (fun a => sans H Af a = none) (sans H Af) Hs H kf df uf Af ∧ Af.Nodup ∧ (∀ a ∈ Af, Hs a = none) ∧
      ∀ (Hs' H' : Hp) (k2 : List Kd) (d2 : List D) (u2 : List V) (A2 : List Addr), k2.all Kd.fine = true → Grow Hs (sans H Af) Hs' H' → RM E.cl (fun a => sans H Af a = none) (sans H Af) Hs' H' k2 d2 u2 A2 → A2.Nodup → (∀ a ∈ A2, Hs' a = none ∧ sans H Af a = none) →
        StRel E Hs' H' (k2 ++ ks) (d2.map some ++ r) (u2.map some ++ σ) ∧
        ∀ (k : Kd) (d : D) (v : V) (A0 : List Addr), k.fine = true → ORep E.cl (fun a => sans H Af a = none) (sans H Af) Hs' H' k d v A0 → (A0 ++ A2).Nodup → (∀ a ∈ A0, Hs' a = none ∧ sans H Af a = none) →
          StRel E Hs' H' (k :: (k2 ++ ks)) (some d :: (d2.map some ++ r)) (some v :: (u2.map some ++ σ)) := by
  obtain ⟨As, S⟩ := S
  obtain ⟨Af, Ar, e, m, t⟩ := S.sl.front l1 l2
  subst e
  have nd := List.nodup_append.mp S.nd
  have df' : ∀ a ∈ Af, Hs a = none ∧ E.b a = none := fun a ha => S.dis a (List.mem_append_left _ ha)
  refine ⟨Af, RM.renew fk (fun a ha => sans_in ha) m, nd.1, fun a ha => (df' a ha).1, fun Hs' H' k2 d2 u2 A2 fk2 g m2 nd2 di2 => ?_⟩
  have allN : ∀ a, sans H Af a = none → E.h a = none := fun a z => by
    rcases sans_none z with w | w
    · exact (m.dat a w).2
    · exact S.dom a w
  have hr : ∀ a ∈ Ar, a ∉ Af := fun a ha w => nd.2.2 a w a ha rfl
  have tz : ∀ a ∈ Ar, ∃ o, H a = some o ∧ NT o ∧ H' a = some o := fun a ha => by
    obtain ⟨o, e, nt⟩ := t.here a ha
    exact ⟨o, e, nt, grow_sans g e nt (hr a ha)⟩
  have t2 : Slots E Hs' H' ks r σ Ar := t.mono g.s fun a ha => by
    obtain ⟨o, e, _, e2⟩ := tz a ha
    rw [e, e2]
  have dr : ∀ a ∈ Ar, Hs' a = none ∧ E.b a = none := fun a ha => by
    have z := S.dis a (List.mem_append_right _ ha)
    refine ⟨?_, z.2⟩
    cases q : Hs' a with
    | none => rfl
    | some u =>
      rcases g.n a (by rw [q]; simp) with w | w
      · exact absurd z.1 w
      · rcases sans_none w with w | w
        · exact (hr a ha w).elim
        · obtain ⟨o, e, _⟩ := tz a ha
          rw [e] at w; cases w
  have sep : ∀ a, sans H Af a = none → a ∉ Ar := fun a z ha => by
    rcases sans_none z with w | w
    · exact hr a ha w
    · obtain ⟨o, e, _⟩ := tz a ha
      rw [e] at w; cases w
  have ebz : ∀ a, sans H Af a = none → E.b a = none := fun a z => by
    rcases sans_none z with w | w
    · exact (df' a w).2
    · exact S.eb.free w
  have eb : Same E.b H' := (sans_sub (A := Af) S.eb fun a ha => (df' a ha).2).trans g.h
  have new : ∀ a, Hs' a ≠ none → E.s a ≠ none ∨ E.h a = none := fun a z => by
    rcases g.n a z with w | w
    · exact S.new a w
    · exact .inr (allN a w)
  have dom : ∀ a, H' a = none → E.h a = none := fun a z => allN a (g.h.free z)
  have tb : ∀ P, LamX.TabS E.h P lamQ → LamX.TabS H' P lamQ := fun P z => g.t P (tab_sans (fun a ha => (m.dat a ha).1) P (S.tb P z))
  have m2' : RM E.cl E.N E.b Hs' H' k2 d2 u2 A2 := RM.renew fk2 (fun a ha => allN a (di2 a ha).2) m2
  have J := Slots.join m2' t2
  have nd3 : (A2 ++ Ar).Nodup := List.nodup_append.mpr ⟨nd2, nd.2.1, fun a ha b hb z => sep a (di2 a ha).2 (z ▸ hb)⟩
  have dis3 : ∀ a ∈ A2 ++ Ar, Hs' a = none ∧ E.b a = none := fun a ha => by
    rcases List.mem_append.mp ha with w | w
    · exact ⟨(di2 a w).1, ebz a (di2 a w).2⟩
    · exact dr a w
  refine ⟨⟨_, J, nd3, dis3, S.es.trans g.s, g.sub, eb, new, dom, tb⟩, fun k d v A0 fk0 o nd0 di0 => ?_⟩
  refine ⟨_, .cons (ORep.renew k _ _ _ fk0 (fun a ha => allN a (di0 a ha).2) o) J, ?_, fun a ha => ?_, S.es.trans g.s, g.sub, eb, new, dom, tb⟩
  · rw [← List.append_assoc]
    exact List.nodup_append.mpr ⟨nd0, nd.2.1, fun a ha b hb z => by
      rcases List.mem_append.mp ha with w | w
      · exact sep a (di0 a w).2 (z ▸ hb)
      · exact sep a (di2 a w).2 (z ▸ hb)⟩
  · rcases List.mem_append.mp ha with w | w
    · exact ⟨(di0 a w).1, ebz a (di0 a w).2⟩
    · exact dis3 a w
end
def Kd.re (n : Option Addr) : Kd → Kd
  | .own _ => .own n
  | .obj _ ks => .obj n ks
  | .lls _ k => .lls n k
  | k => k
section
variable {cl : Cl} {N : Addr → Prop} {B Hs H : Hp} {d : D} {v : V} {A : List Addr} {n : Option Addr} {kk : List (Str × Kd)}
theorem ORep.unpinO {a : Addr} (h : ORep cl N B Hs H (.obj (some a) kk) d v A) (hn : ∀ b, n = some b → b = a) : ORep cl N B Hs H (.obj n kk) d v A := by
  cases h with
  | obj h0 h1 h2 h3 =>
    have e := h0.2 _ rfl
    subst e
    exact .obj ⟨h0.1, hn⟩ h1 h2 h3
end
end VL
end

noncomputable section
namespace VL
open PySem PySem.Spec PyProof.Rows L2
variable {md : Md}

section
variable {cl : Cl} {N : Addr → Prop} {B Hs H : Hp}
theorem OFs.names : ∀ {ks : List (Str × Kd)} {ds : List (Str × D)} {xs : List (Str × V)} {As : List Addr}, OFs cl N B Hs H ks ds xs As → xs.map (·.1) = ks.map (·.1) ∧ ds.map (·.1) = ks.map (·.1)
  | _, _, _, _, .nil => ⟨rfl, rfl⟩
  | _, _, _, _, .cons o t => by simp [t.names]
theorem OFs.pos {f : Str} {k : Kd} : ∀ {ks : List (Str × Kd)} {ds : List (Str × D)} {xs : List (Str × V)} {As : List Addr} (j : Nat), OFs cl N B Hs H ks ds xs As → ks[j]? = some (f, k) →
    ∃ pre A post d v, As = pre ++ (A ++ post) ∧ ds[j]? = some (f, d) ∧ xs[j]? = some (f, v) ∧ ORep cl N B Hs H k d v A ∧
      ∀ Hs' H', Same Hs Hs' → (∀ a ∈ pre ++ post, H' a = H a) → ∀ k' d' v' A', ORep cl N B Hs' H' k' d' v' A' → OFs cl N B Hs' H' (ks.set j (f, k')) (ds.set j (f, d')) (xs.set j (f, v')) (pre ++ (A' ++ post))
  | _, _, _, _, j, .nil, e => by simp at e
  | _, _, _, _, 0, .cons (A := A) (As := As) o t, e => by
    simp at e
    obtain ⟨rfl, rfl⟩ := e
    exact ⟨[], A, As, _, _, rfl, rfl, rfl, o, fun Hs' H' s q k' d' v' A' o' => .cons (A := A') (As := As) o' (OFs.mono s (Same.refl _) (fun _ z => z) _ _ _ As (fun a ha => q a ha) t)⟩
  | _, _, _, _, j + 1, .cons (A := A0) o t, e => by
    obtain ⟨pre, A, post, d, v, e1, e2, e3, e4, e5⟩ := OFs.pos j t (by simpa using e)
    refine ⟨A0 ++ pre, A, post, d, v, by rw [e1, List.append_assoc], by simpa using e2, by simpa using e3, e4, fun Hs' H' s q k' d' v' A' o' => ?_⟩
    rw [List.append_assoc]
    exact .cons (ORep.mono s (Same.refl _) (fun _ z => z) _ _ _ _ (fun a ha => q a (List.mem_append_left _ (List.mem_append_left _ ha))) o)
      (e5 Hs' H' s (fun a ha => q a (by
        rcases List.mem_append.mp ha with z | z
        · exact List.mem_append_left _ (List.mem_append_right _ z)
        · exact List.mem_append_right _ z)) k' d' v' A' o')
theorem OFs.snoc {f : Str} {k : Kd} {d : D} {v : V} {A : List Addr} (o : ORep cl N B Hs H k d v A) : ∀ {ks : List (Str × Kd)} {ds : List (Str × D)} {xs : List (Str × V)} {As : List Addr}, OFs cl N B Hs H ks ds xs As → OFs cl N B Hs H (ks ++ [(f, k)]) (ds ++ [(f, d)]) (xs ++ [(f, v)]) (As ++ A)
  | _, _, _, _, .nil => by
    have z := OFs.cons (f := f) o (.nil (cl := cl) (N := N) (B := B) (Hs := Hs) (H := H))
    rw [List.append_nil] at z
    exact z
  | _, _, _, _, .cons o1 t => by
    rw [List.append_assoc]
    exact .cons o1 (OFs.snoc o t)
end
theorem Grow.inside {Hs H : Hp} {Af : List Addr} {a : Addr} {o : HO} (e : Same Hs H) (ha : a ∈ Af) (hz : ∀ a ∈ Af, Hs a = none) : Grow Hs (sans H Af) Hs (upd H a o) where
  s := Same.refl _
  h := ⟨fun b u q _ => by
    have hb : b ∉ Af := fun w => by rw [sans_in w] at q; cases q
    have hne : b ≠ a := fun w => hb (by rw [w]; exact ha)
    rw [upd_ne hne]
    rw [sans_out hb] at q
    exact q⟩
  n := fun _ z => .inl z
  sub := ⟨fun b u q nt => by
    have hb : b ≠ a := fun w => by rw [w, hz a ha] at q; cases q
    rw [upd_ne hb] at nt ⊢
    exact e.k _ _ q nt⟩
  t := fun P z => z.ext fun b u q => by
    have hb : b ∉ Af := fun w => by rw [sans_in w] at q; cases q
    have hne : b ≠ a := fun w => hb (by rw [w]; exact ha)
    rw [upd_ne hne]
    rw [sans_out hb] at q
    exact q
theorem set_self {α : Type} {l : List α} {i : Nat} {x : α} (h : l[i]? = some x) : l.set i x = l := by
  obtain ⟨h, e⟩ := List.getElem?_eq_some_iff.mp h
  rw [← e, List.set_getElem_self]
section
variable {E : En} {Hs H Hs' H' : Hp} {ks : List Kd} {r : Sl} {σ : L2.St} {i j : Nat} {n : Option Addr} {kk : List (Str × Kd)} {k : Kd} {f C : Str} {d d0 : D} {ds : List (Str × D)} {v : V}
/-- slot i's value is lent, changed, comes back -/
theorem StRel.chg (S : StRel E Hs H ks r σ) (hk : ks[i]? = some k) (hd : r[i]? = some (some d)) (fk : k.fine = true) :
    ∃ v Af, σ[i]? = some (some v) ∧ ORep E.cl (fun a => sans H Af a = none) (sans H Af) Hs H k d v Af ∧ Af.Nodup ∧ (∀ a ∈ Af, Hs a = none) ∧ Same Hs H ∧
      ∀ (Hs' H' : Hp) (k2 : Kd) (d2 : D) (A2 : List Addr), k2.fine = true → Grow Hs (sans H Af) Hs' H' → ORep E.cl (fun a => sans H Af a = none) (sans H Af) Hs' H' k2 d2 v A2 → A2.Nodup → (∀ a ∈ A2, Hs' a = none ∧ sans H Af a = none) →
        StRel E Hs' H' (ks.set i k2) (r.set i (some d2)) σ := by
  obtain ⟨v, ev, S1⟩ := S.take hk hd
  obtain ⟨Af, m, nd, dz, back⟩ := StRel.lend (kf := [k]) (df := [d]) (uf := [v]) (r := r.set i none) S1 rfl rfl (by simp [fk])
  refine ⟨v, Af, ev, ?_, nd, dz, S.sub, fun Hs' H' k2 d2 A2 fk2 g o nd2 di2 => ?_⟩
  · cases m with
    | cons o t =>
      cases t
      rw [List.append_nil]
      rw [List.append_nil] at o
      exact o
  · have z := (back Hs' H' [k2] [d2] [v] A2 (by simp [fk2]) g (by
      have w := RM.cons o (.nil (cl := E.cl) (N := fun a => sans H Af a = none) (B := sans H Af) (Hs := Hs') (H := H'))
      rw [List.append_nil] at w
      exact w) nd2 di2).1
    have q := StRel.settle (ks := ks) (r := r.set i none) (σ := σ) z hk
    rw [List.set_set] at q
    rw [set_self ev] at q
    exact q
end
section
variable {X : Cx} {E : En} {fin : List Kd → Prop} {kr : Kd} {ks ks' : List Kd} {i j : Nat} {n : Option Addr} {kk : List (Str × Kd)} {k : Kd} {C f x : Str} {e : Expr} {g : Sl → R D} {p1 p2 p3 pos : Pos}
end
end VL
end

noncomputable section
namespace VL
open PySem PySem.Spec PyProof.Rows L2
variable {md : Md}

def pins (ks : List Kd) (as : List Addr) : List Kd := List.zipWith (fun k a => k.re (some a)) ks as
section
variable {cl : Cl} {N : Addr → Prop} {B Hs H : Hp}
end
/-- how a call ends: its result, what was lent -/
def PostM (cl : Cl) (k2 : List Kd) (kr : Kd) (as : List Addr) (Hs H : Hp) (Af : List Addr) (Q : VK) (E : XK) : O → Prop
  | .stuck => False
  | .nx _ => False
  | .rt d es => ∃ dm, es = dm.map some ∧ ∀ v Hs' H' A0 A2, Grow Hs (sans H Af) Hs' H' → ORep cl (fun b => sans H Af b = none) (sans H Af) Hs' H' kr d v A0 → RM cl (fun b => sans H Af b = none) (sans H Af) Hs' H' (pins k2 as) dm (as.map .ref) A2 →
      (A0 ++ A2).Nodup → (∀ b ∈ A0 ++ A2, Hs' b = none ∧ sans H Af b = none) → Q v H'
  | .exc x es => ∃ dm, es = dm.map some ∧ ∀ c dd Hs' H' A2, Grow Hs (sans H Af) Hs' H' → RM cl (fun b => sans H Af b = none) (sans H Af) Hs' H' (pins k2 as) dm (as.map .ref) A2 →
      A2.Nodup → (∀ b ∈ A2, Hs' b = none ∧ sans H Af b = none) → XRep cl Hs' H' x c dd → E c dd H'
/-- a promise with things that are lent (ahead) -/
def spM (cl : Cl) (k1 k2 : List Kd) (bs : List Bool) (kr : Kd) (f : List D → O) : Sp := fun vs H Q E => ∃ (as : List Addr) (ws : List V) (dm ds : List D) (Hs : Hp) (Af : List Addr), vs = as.map .ref ++ ws ∧ as.length = k1.length ∧ Same Hs H ∧
  RM cl (fun b => sans H Af b = none) (sans H Af) Hs H (pins k1 as) dm (as.map .ref) Af ∧ Af.Nodup ∧ (∀ b ∈ Af, Hs b = none) ∧ RAs cl Hs (sans H Af) bs ds ws ∧ PostM cl k2 kr as Hs H Af Q E (f (dm ++ ds))
section
variable {P : Program} {w : World} {K : PySem.W.Frag} {mg : Str → Option Value} {base : Heap} {cl : Cl} {x qual : Str} {st : Stmt} {fa : Addr} {fd : FuncData} {N ps : List Str} {k : Nat} {bs : List Bool} {kr : Kd} {k1 k2 ls : List Kd} {m : Sl → O}
end
end VL
end

noncomputable section
namespace VL
open PySem PySem.Spec PyProof.Rows L2
variable {md : Md}

section
variable {E : En} {Hs H Hs' H' : Hp} {ks : List Kd} {r : Sl} {σ : L2.St} {i : Nat} {k ka kb : Kd} {d da db : D} {va vb : V}
theorem StRel.swap (S : StRel E Hs H (ka :: kb :: ks) (some da :: some db :: r) (some va :: some vb :: σ)) : StRel E Hs H (kb :: ka :: ks) (some db :: some da :: r) (some vb :: some va :: σ) := by
  obtain ⟨As, S⟩ := S
  have sl := S.sl
  cases sl with
  | cons o t =>
    cases t with
    | cons o2 t2 =>
      rename_i A A2 Ar
      have p : (A2 ++ (A ++ Ar)).Perm (A ++ (A2 ++ Ar)) := by
        rw [← List.append_assoc, ← List.append_assoc]
        exact List.Perm.append_right _ List.perm_append_comm
      exact ⟨_, .cons o2 (.cons o t2), p.nodup_iff.mpr S.nd, fun a ha => S.dis a (p.mem_iff.mp ha), S.es, S.sub, S.eb, S.new, S.dom, S.tb⟩
end
theorem RAs.ofReps {cl : Cl} {Hs H : Hp} : ∀ {n : Nat} {ds : List D} {vs : List V}, RepL cl Hs ds vs → ds.length = n → RAs cl Hs H (List.replicate n true) ds vs
  | 0, [], _, r, _ => by cases r; exact .nil
  | n + 1, d :: ds, _, r, h => by
    cases r with
    | cons r1 r2 =>
      rw [List.replicate_succ]
      exact .val r1 (RAs.ofReps r2 (by simpa using h))
  | 0, _ :: _, _, _, h => by cases h
  | _ + 1, [], _, _, h => by cases h

def PostX (E : En) (ks' : List Kd) (k : Kd) (fin : List Kd → Prop) (W : WX) (σ : L2.St) (Q : VK) : O → Prop
  | .rt d r => ∀ v Hs' H', StRel E Hs' H' (k :: ks') (some d :: r) (some v :: σ) → Q v H'
  | .exc x r => ∀ Hs' H' c dd ks2, fin ks2 → StRel E Hs' H' ks2 r σ → XRep E.cl Hs' H' x c dd → W c dd σ H'
  | _ => False
/-- an expression that changes slots -/
structure SX [md : Md] (X : Cx) (E : En) (fin : List Kd → Prop) (ks : List Kd) (k : Kd) (e : Expr) (g : Sl → O) (ks' : List Kd) : Prop where
  run : ∀ (Hs H : Hp) (r : Sl) (σ : L2.St) (W : WX) (Q : VK), Takes X W → StRel E Hs H ks r σ → PostX E ks' k fin W σ Q (g r) → WEx X e σ H Q
@[simp] def onX (o : O) (k : D → Sl → O) : O := match o with
  | .rt d r => k d r
  | .exc x r => .exc x r
  | _ => .stuck
section
variable {X : Cx} {E : En} {fin : List Kd → Prop} {kr : Kd} {ks ks' : List Kd} {i : Nat} {k k0 : Kd} {x : Str} {e : Expr} {g : Sl → O} {pos pos' : Pos}
end
section
variable {X : Cx} {CX : CXT} {k : Nat} {f C : Addr} {fd : FuncData} {ps : List Str} {sp : Sp} {E : L2.St → XK} {x m : Str} {p pos apos : Pos} {e o : Expr} {es : List Expr} {ta : TE} {t : TA}
end
section
variable {X : Cx} {E : En} {fin : List Kd → Prop} {kr : Kd} {ks ks' : List Kd} {i : Nat} {n : Option Addr} {k : Nat} {k1 k2 : List (Str × Kd)} {nb : Nat} {x C m : Str} {e : Expr} {es : List Expr} {f : List D → O} {t : Sl → R (List D)} {p1 apos pos : Pos}
end
@[simp] def dMake (C : Str) (f : List D → O) (ds : List D) : R D := match f (.obj C [] :: ds) with
  | .rt .non [some d] => .ok d
  | _ => .stuck
section
variable {X : Cx} {E : En} {ks : List Kd} {k nb : Nat} {kk : List (Str × Kd)} {C : Str} {f : List D → O} {t : Sl → R (List D)} {e : Expr} {es : List Expr} {p pos : Pos}
theorem made {Hs H : Hp} {Q : VK} {W : WX0} {ds : List D} {vs : List V} {c x dx : Addr} (e : Same Hs H) (hc : E.cl.o C = some c) (fk : (Kd.obj none kk).fine = true) (a : RAs E.cl Hs H (List.replicate nb true) ds vs) (nx : H x = none) (ndx : H dx = none) (ne : dx ≠ x)
    (P : Post E.cl (.obj none kk) Hs H Q W (dMake C f ds)) : spM E.cl [.obj none []] [.obj none kk] (List.replicate nb true) .val f (.ref x :: vs) (upd (upd H dx (.own x)) x (.ins c dx [])) (fun v H2 => v = .non ∧ Q (.ref x) H2) E0 := by
  have s1 : Same H (upd H dx (.own x)) := Same.updNew ndx
  have nx' : upd H dx (.own x) x = none := by rw [upd_ne ne.symm]; exact nx
  have s2 : Same H (upd (upd H dx (.own x)) x (.ins c dx [])) := s1.trans (Same.updNew nx')
  have dz : ∀ b ∈ [x], Hs b = none := fun b hb => by
    simp at hb
    subst hb
    exact e.free nx
  have back : ∀ b, sans (upd (upd H dx (.own x)) x (.ins c dx [])) [x] b = none → H b = none := fun b z => by
    rcases sans_none z with w | w
    · simp at w
      subst w
      exact nx
    · exact s2.free w
  refine ⟨[x], vs, [.obj C []], ds, Hs, [x], rfl, rfl, e.trans s2, ?_, by simp, dz, RAs.ofReps a.reps (by simpa using a.len.2), ?_⟩
  · have o : ORep E.cl (fun b => sans (upd (upd H dx (.own x)) x (.ins c dx [])) [x] b = none) (sans (upd (upd H dx (.own x)) x (.ins c dx [])) [x]) Hs (upd (upd H dx (.own x)) x (.ins c dx [])) (.obj (some x) []) (.obj C []) (.ref x) [x] :=
      .obj ⟨sans_in (by simp), fun b z => (Option.some.inj z).symm⟩ hc upd_same .nil
    exact .cons o .nil
  · show PostM E.cl _ .val [x] Hs _ [x] _ E0 (f (.obj C [] :: ds))
    unfold dMake at P
    cases q : f (.obj C [] :: ds) with
    | stuck => rw [q] at P; exact P.elim
    | nx r' => rw [q] at P; exact P.elim
    | exc y es => rw [q] at P; exact P.elim
    | rt d es =>
      rw [q] at P
      split at P
      · rename_i d1 e1
        cases e1
        refine ⟨[d1], rfl, fun v Hs' H' A0 A2 g o0 rm nd2 di2 => ?_⟩
        have ev : v = .non := by
          cases o0 with
          | val r => cases r; rfl
        refine ⟨ev, ?_⟩
        cases rm with
        | cons o2 t2 =>
          cases t2
          rw [List.append_nil] at nd2 di2
          have nd3 := (List.nodup_append.mp nd2).2.1
          refine P (.ref x) Hs' H' ⟨g.s, ?_, fun b z => ?_, g.sub, fun R z => ?_⟩ ⟨_, ORep.renew _ _ _ _ fk (fun b hb => back b (di2 b (List.mem_append_right _ hb)).2) (o2.unpinO (fun b z => nomatch z)), nd3, fun b hb => ?_⟩
          · exact ((sans_sub (A := [x]) s2 fun b hb => by simp at hb; subst hb; exact nx)).trans g.h
          · rcases g.n b z with w | w
            · exact .inl w
            · exact .inr (back b w)
          · refine g.t R (z.ext fun b u q => ?_)
            have hb1 : b ≠ x := ne_of_none q nx
            have hb2 : b ≠ dx := ne_of_none q ndx
            rw [sans_out fun w => by simp at w; exact hb1 w, upd_ne hb1, upd_ne hb2]
            exact q
          · have z := di2 b (List.mem_append_right _ hb)
            exact ⟨z.1, back b z.2⟩
      · exact P.elim
end
end VL
end

noncomputable section
namespace VL
open PySem PySem.Spec PyProof.Rows L2
variable {md : Md}

@[simp] def outFO : O → R D
  | .rt d _ => .ok d
  | .exc x _ => .exc x
  | _ => .stuck
@[simp] def runFO (m : Sl → O) (n : Nat) : List D → R D := fun ds => outFO (m (ds.map some ++ List.replicate n none))
/-- a def that returns an object -/
theorem def_okO {P : Program} {w : World} {K : PySem.W.Frag} {mg : Str → Option Value} {base : Heap} {cl : Cl} {x qual : Str} {st : Stmt} {fa : Addr} {fd : FuncData} {N ps : List Str} {k : Nat} {bs : List Bool} {kr : Kd} {ls ks' : List Kd} {m : Sl → O}
    (F : Fun K x qual st fa fd) (S : FnScope N ps (defScope st)) (gm : mg x = some (.ref fa)) (bn : Binds K fd ps []) (hb : bs.length = ps.length) (hN : N.length = ps.length + ls.length) (fk : kr.fine = true)
    (body : ∀ (cdv : Value) (A : Around) (outer : List Env) (s : Shared) (H : Hp) (E : XK) (h0 s0 b0 : Hp), Room k (A.deeper (envOfC qual (defScope st) s.heap.objs.size fa cdv)) →
      SB (cxOf (CXM P w) P w K mg base N qual (defScope st) fa cdv A outer s H E) ⟨cl, h0, s0, b0⟩ kr (fun _ => True) (bs.map kdOf ++ ls) (defBody st) m ks') : Fi P w K mg base cl x (k + 1) bs kr (runFO m ls.length) := by
  refine ⟨fa, fd, ps, ?_, gm, F.kp, bn⟩
  refine fun_okM F S (fun vs H Q E h => ?_) (fun cdv A outer s H vs Q E hr h => ?_)
  · obtain ⟨ds, Hs, _, a, _⟩ := h
    rw [a.len.1, hb]
  · obtain ⟨ds, Hs, e, a, p⟩ := h
    refine ⟨_, pss_ws, ?_⟩
    have tk : Takes (cxOf (CXM P w) P w K mg base N qual (defScope st) fa cdv A outer s H E) (fun c dd _ H' => E c dd H') := takes_of rfl rfl rfl rfl
    have hst : L2.start N vs = vs.map some ++ List.replicate ls.length none := by
      unfold L2.start
      rw [a.len.1, hb, hN, Nat.add_sub_cancel_left]
    have S0 : StRel ⟨cl, H, Hs, H⟩ Hs H (bs.map kdOf ++ ls) (ds.map some ++ List.replicate ls.length none) (L2.start N vs) := by
      rw [hst]
      exact ⟨[], slots_start rfl a ls, List.nodup_nil, (fun a ha => nomatch ha), Same.refl _, e, Same.refl _, fun a z => .inl z, fun a z => z, fun _ z => z⟩
    refine (body cdv A outer s H E H Hs H hr).run _ _ _ _ _ _ tk S0 ?_
    unfold runFO at p
    cases q : m (ds.map some ++ List.replicate ls.length none) with
    | stuck => rw [q] at p; exact p
    | nx r => rw [q] at p; exact p.elim
    | rt d r =>
      rw [q] at p
      intro Hs' H' σ' v ks2 _ S'
      have f := S'.facts
      refine p v Hs' H' ⟨f.1, f.2.1, f.2.2.1, S'.sub, f.2.2.2⟩ ?_
      obtain ⟨As, s'⟩ := S'
      have sl := s'.sl
      cases sl with
      | cons o t =>
        rename_i A As'
        refine ⟨A, ORep.anyB kr _ _ _ fk o, (List.nodup_append.mp s'.nd).1, fun a ha => ?_⟩
        have z := s'.dis a (List.mem_append_left _ ha)
        exact ⟨z.1, z.2⟩
    | exc z r =>
      rw [q] at p
      intro Hs' H' σ' c dd ks2 _ S' xr
      have f := S'.facts
      exact p c dd Hs' H' ⟨f.1, f.2.1, f.2.2.1, S'.sub, f.2.2.2⟩ xr
end VL
end

noncomputable section
namespace VL
open PySem PySem.Spec PyProof.Rows L2
variable {md : Md}

section
variable {X : Cx} {E : En} {kr : Kd} {fin : List Kd → Prop} {ks ks' : List Kd} {e : Expr} {g : Sl → R D} {pos : Pos}
end
end VL
end

noncomputable section
namespace VL
open PySem PySem.Spec PyProof.Rows L2
variable {md : Md}

theorem RepK.at_ {cl : Cl} {H : Hp} (k : Key) : ∀ {ds : List (Key × D)} {xs : List (Key × V)} {d : D}, RepK cl H ds xs → valD ds k = some d → ∃ v, valV xs k = some v ∧ Rep cl H d v
  | [], _, _, h, e => by cases e
  | (k0, d0) :: _, _, _, h, e => by
    cases h with
    | cons h1 h2 =>
      by_cases c : k0 = k
      · rw [valD_pos c] at e
        cases e
        rw [valV_pos c]
        exact ⟨_, rfl, h1⟩
      · rw [valD_neg c] at e
        rw [valV_neg c]
        exact RepK.at_ k h2 e
section
variable {X : Cx} {E : En} {ks : List Kd} {a b : Expr} {ga gb : Sl → R D} {pos : Pos}
end

theorem met_ok (f : Nat → Int) : ∀ n, (firstMet f n).Nodup ∧ ∀ k, k ∈ firstMet f n ↔ k ∈ (List.range n).map f
  | 0 => ⟨List.Pairwise.nil, fun k => by simp [firstMet_zero]⟩
  | n + 1 => by
    obtain ⟨h1, h2⟩ := met_ok f n
    rw [firstMet_succ, List.range_succ, List.map_append]
    unfold step_dedup
    by_cases c : (firstMet f n).any (· == f n) = true
    · rw [if_pos c]
      refine ⟨h1, fun k => ?_⟩
      rw [h2 k, List.mem_append]
      obtain ⟨y, hy, ey⟩ := List.any_eq_true.mp c
      have e : y = f n := by simpa using ey
      constructor
      · exact .inl
      · rintro (w | w)
        · exact w
        · have : k = f n := by simpa using w
          rw [this, ← e]
          exact (h2 y).mp hy
    · rw [if_neg c]
      have hn : f n ∉ firstMet f n := fun w => c (List.any_eq_true.mpr ⟨_, w, by simp⟩)
      refine ⟨List.nodup_append.mpr ⟨h1, by simp, fun a ha b hb z => ?_⟩, fun k => ?_⟩
      · have : b = f n := by simpa using hb
        exact hn (this ▸ z ▸ ha)
      · rw [List.mem_append, List.mem_append, h2 k]
        simp
theorem met_len (ns : List Int) : (firstMet (fun i => ns.getD i 0) ns.length).length = (sortSet ns).length := by
  obtain ⟨h1, h2⟩ := met_ok (fun i => ns.getD i 0) ns.length
  refine List.Perm.length_eq ((List.perm_ext_iff_of_nodup h1 ((sortSet_lt ns).imp fun {a b} h => by omega)).mpr fun k => ?_)
  rw [h2 k, sortSet_mem]
  constructor
  · intro w
    obtain ⟨i, hi, rfl⟩ := List.mem_map.mp w
    have hi' := List.mem_range.mp hi
    show ns.getD i 0 ∈ ns
    rw [List.getD_eq_getElem?_getD, List.getElem?_eq_getElem hi']
    exact List.getElem_mem hi'
  · intro w
    obtain ⟨i, hi, rfl⟩ := List.getElem_of_mem w
    refine List.mem_map.mpr ⟨i, List.mem_range.mpr hi, ?_⟩
    show ns.getD i 0 = ns[i]
    rw [List.getD_eq_getElem?_getD, List.getElem?_eq_getElem hi]
    rfl
def tLenSetA (K : PySem.W.Frag) (ta : TE) : TE := fun σ H Q => ta σ H fun x H1 => ∃ (l : Addr) (ns : List Int), x = .ref l ∧ SqL K H1 l (ns.map V.int) ∧ ns.length ≤ 4000 ∧ Q (.int ((sortSet ns).length : Nat)) H1
theorem pe_lenSetA {X : Cx} {a : Expr} {ta : TE} {p p2 q pos : Pos} (hg : Gl X "len") (hm : X.mg "len" = none) (hg2 : Gl X "set") (hm2 : X.mg "set" = none) (ha : PE X a ta) (hc : X.calm = true := by rfl)
    (na : starEach [a] X.env = (false, eval a X.env) :: starEach [] X.env := by rfl) : PE X (.Call (.Name "len" p) [.Call (.Name "set" p2) [a] [] q] [] pos) (tLenSetA X.K ta) := by
  refine ⟨fun pins s σ H Q I h => ?_⟩
  refine Call_ (ld_blt I hg hm boot_len ?_)
  refine PyProof.Rows.callWith_builtin1 (PyProof.Rows.args_cons ?_ rfl) rfl rfl
  refine Call_ (ld_blt I hg2 hm2 boot_set ?_)
  refine PyProof.Rows.callWith_type1 (PyProof.Rows.args_cons (thn (ha.run pins s σ H _ I h) fun v s1 ⟨x, H1, I1, r1, q1⟩ => PyProof.Rows.args_nil ?_) na) na rfl
  obtain ⟨l, ns, rfl, hq, hl, q1⟩ := q1
  cases r1
  obtain ⟨its, r, pl, hz⟩ := I1.list hq
  have hlen : its.toArray.size = ns.length := by rw [List.size_toArray, ← r.length, List.length_map]
  refine call_set_list (I1.ok.hd hc) pl.isList (by simpa using RZ.intsAre_vals r) (by rw [hlen]; unfold scanBound; omega) fun h' tk hS hk => ?_
  refine PyProof.Rows.args_nil ?_
  rw [hlen] at hS
  obtain ⟨o, es, ep, t, ho, hex, hd, _, _, _, hf, hn⟩ := hS
  have I2 : Inv X pins σ H1 { s1 with heap := h', toks := tk } := I1.kept fun b o e => hk b o (Heap.lt_size e) e
  have ln := met_len ns
  have ll := sortSet_len ns
  exact call_len_set ho hex hd hf (by rw [hn] <;> omega) ⟨.int ((sortSet ns).length : Nat), H1, I2.tok _, ⟨_, by rw [hn, ln]⟩, q1⟩
def dLenSet (d : D) : R D := match d with
  | .lst ds => match intsOf ds with
    | some ns => if ns.length ≤ 4000 then .ok (.int ((sortSet ns).length : Nat)) else .stuck
    | none => .stuck
  | _ => .stuck
theorem se_lenSet {X : Cx} {E : En} {ks : List Kd} {e : Expr} {g : Sl → R D} {p1 p2 q pos : Pos} (B : Bl X.mg) (he : SE X E ks .bor e g) (hc : X.calm = true := by rfl) (hg : Gl X "len" := by rfl) (hg2 : Gl X "set" := by rfl)
    (na : starEach [e] X.env = (false, eval e X.env) :: starEach [] X.env := by rfl) : SE X E ks .val (.Call (.Name "len" p1) [.Call (.Name "set" p2) [e] [] q] [] pos) (gUn dLenSet g) := by
  refine ⟨fun Hs H r σ W Q tk S P => ?_⟩
  refine we_of (pe_lenSetA hg B.len hg2 B.set pe_we hc na) ?_
  refine he.run _ _ _ _ _ _ tk S (P.imp fun d v Hs1 H1 e1 g1 k1 P1 => ?_)
  unfold dLenSet at P1
  cases d <;> first | exact P1.elim | skip
  dsimp only at P1
  split at P1
  · rename_i ns qn
    split at P1
    · rename_i hl
      obtain ⟨a, rfl, h1⟩ := k1.rb.intsInv g1.sub qn
      exact ⟨a, ns, rfl, SqL.of h1, hl, P1.finV g1.sub (.int _)⟩
    · exact P1.elim
  · exact P1.elim

/-- what needs no heap -/
def D.scal : D → Bool
  | .non => true
  | .bl _ => true
  | .int _ => true
  | .str _ => true
  | _ => false
theorem Rep.scal {cl : Cl} {H H' : Hp} {d : D} {v : V} (h : Rep cl H d v) (s : d.scal = true) : Rep cl H' d v := by
  cases d <;> first | (cases s; done) | skip
  · cases h; exact .non
  · cases h; exact .bl _
  · cases h; exact .int _
  · cases h; exact .str _
theorem RepL.last {cl : Cl} {H : Hp} {ds : List D} {xs : List V} {d : D} (r : RepL cl H ds xs) (h : ds.getLast? = some d) : ∃ v, xs[xs.length - 1]? = some v ∧ Rep cl H d v := by
  rw [List.getLast?_eq_getElem?] at h
  rw [r.length]
  exact r.get h
section
variable {X : Cx} {E : En} {fin : List Kd → Prop} {kr : Kd} {ks ks' : List Kd} {i : Nat} {n : Option Addr} {x : Str} {e b : Expr} {g : Sl → R D} {m : Sl → O} {p1 p2 p3 pos : Pos}
end
end VL
end

noncomputable section
namespace VL
open PySem PySem.Spec PyProof.Rows L2
variable {md : Md}

section
variable {cl : Cl} {k : Kd} {Hs H Hs' H' H0 : Hp}
theorem RK.growA {d : D} {v : V} {A : List Addr} (fk : k.fine = true) (g : Grow Hs H Hs' H') (o : ORep cl (fun a => H0 a = none) H Hs H k d v A) (z : ∀ a ∈ A, Hs a = none ∧ H0 a = none) :
    ORep cl (fun a => H0 a = none) H' Hs' H' k d v A ∧ ∀ a ∈ A, Hs' a = none ∧ H0 a = none := by
  have hr := ORep.here _ _ _ _ o
  have e : ∀ a ∈ A, H' a = H a := fun a ha => by
    obtain ⟨u, e1, e2⟩ := hr a ha
    rw [e1, g.h.at a u e1 e2]
  refine ⟨ORep.anyB _ _ _ _ fk (ORep.mono (B' := H) g.s (Same.refl _) (fun _ q => q) _ _ _ _ e o), fun a ha => ⟨?_, (z a ha).2⟩⟩
  obtain ⟨u, e1, e2⟩ := hr a ha
  cases q : Hs' a with
  | none => rfl
  | some w =>
    rcases g.n a (by rw [q]; simp) with y | y
    · exact absurd (z a ha).1 y
    · rw [e1] at y; cases y
theorem RK.grow {d : D} {v : V} (fk : k.fine = true) (g : Grow Hs H Hs' H') (h : RK cl k H0 Hs H d v) : RK cl k H0 Hs' H' d v := by
  obtain ⟨A, o, nd, z⟩ := h
  obtain ⟨o2, z2⟩ := RK.growA fk g o z
  exact ⟨A, o2, nd, z2⟩
def RLs (cl : Cl) (k : Kd) (H0 Hs H : Hp) (ds : List D) (vs : List V) : Prop := ∃ As, OLs cl (fun a => H0 a = none) H Hs H k ds vs As ∧ As.Nodup ∧ ∀ a ∈ As, Hs a = none ∧ H0 a = none
theorem OLs.anyB {N : Addr → Prop} {B B' : Hp} (fk : k.fine = true) {ds : List D} {xs : List V} {As : List Addr} (h : OLs cl N B Hs H k ds xs As) : OLs cl N B' Hs H k ds xs As :=
  OLs.imp (fun _ => True) (fun _ _ _ => trivial) (fun _ _ _ => trivial) (fun d v A _ o => ORep.anyB k d v A fk o) trivial h
theorem OLs.keep {N : Addr → Prop} {B : Hp} {ds : List D} {xs : List V} {As : List Addr} (s : Same Hs Hs') (e : ∀ a ∈ As, H' a = H a) (h : OLs cl N B Hs H k ds xs As) : OLs cl N B Hs' H' k ds xs As :=
  OLs.imp (fun A => ∀ a ∈ A, H' a = H a) (fun _ _ t a ha => t a (List.mem_append_left _ ha)) (fun _ _ t a ha => t a (List.mem_append_right _ ha)) (fun d v A t o => ORep.mono s (Same.refl _) (fun _ q => q) k d v A t o) e h
theorem OLs.here {N : Addr → Prop} {B : Hp} {ds : List D} {xs : List V} {As : List Addr} (h : OLs cl N B Hs H k ds xs As) : ∀ a ∈ As, ∃ o, H a = some o ∧ NT o := OLs.all (fun d v A o => ORep.here k d v A o) h
theorem OLs.newN {N N' : Addr → Prop} {B B' : Hp} (fk : k.fine = true) {ds : List D} {xs : List V} {As : List Addr} (h : OLs cl N B Hs H k ds xs As) (z : ∀ a ∈ As, N' a) : OLs cl N' B' Hs H k ds xs As :=
  OLs.imp (fun A => ∀ a ∈ A, N' a) (fun _ _ t a ha => t a (List.mem_append_left _ ha)) (fun _ _ t a ha => t a (List.mem_append_right _ ha)) (fun d v A t o => ORep.renew k d v A fk t o) z h
theorem OLs.pos : ∀ {N : Addr → Prop} {B : Hp} {ds : List D} {xs : List V} {As : List Addr} (j : Nat) {d : D}, OLs cl N B Hs H k ds xs As → ds[j]? = some d →
    ∃ pre A post v, As = pre ++ (A ++ post) ∧ xs[j]? = some v ∧ ORep cl N B Hs H k d v A ∧
      ∀ Hs' H', Same Hs Hs' → (∀ a ∈ pre ++ post, H' a = H a) → ∀ d' v' A', ORep cl N B Hs' H' k d' v' A' → OLs cl N B Hs' H' k (ds.set j d') (xs.set j v') (pre ++ (A' ++ post))
  | _, _, _, _, _, j, _, .nil, e => by simp at e
  | _, _, _, _, _, 0, _, .cons (A := A) (As := As) o t, e => by
    simp at e
    subst e
    exact ⟨[], A, As, _, rfl, rfl, o, fun Hs' H' s q d' v' A' o' => .cons (A := A') (As := As) o' (OLs.keep s (fun a ha => q a ha) t)⟩
  | _, _, _, _, _, j + 1, _, .cons (A := A0) o t, e => by
    obtain ⟨pre, A, post, v, e1, e2, e3, e4⟩ := OLs.pos j t (by simpa using e)
    refine ⟨A0 ++ pre, A, post, v, by rw [e1, List.append_assoc], by simpa using e2, e3, fun Hs' H' s q d' v' A' o' => ?_⟩
    rw [List.append_assoc]
    exact .cons (ORep.mono s (Same.refl _) (fun _ z => z) _ _ _ _ (fun a ha => q a (List.mem_append_left _ (List.mem_append_left _ ha))) o)
      (e4 Hs' H' s (fun a ha => q a (by
        rcases List.mem_append.mp ha with z | z
        · exact List.mem_append_left _ (List.mem_append_right _ z)
        · exact List.mem_append_right _ z)) d' v' A' o')
theorem RLs.grow {ds : List D} {vs : List V} (fk : k.fine = true) (g : Grow Hs H Hs' H') (h : RLs cl k H0 Hs H ds vs) : RLs cl k H0 Hs' H' ds vs := by
  obtain ⟨A, o, nd, z⟩ := h
  have hr := o.here
  have e : ∀ a ∈ A, H' a = H a := fun a ha => by
    obtain ⟨u, e1, e2⟩ := hr a ha
    rw [e1, g.h.at a u e1 e2]
  refine ⟨A, (OLs.keep g.s e o).anyB fk, nd, fun a ha => ⟨?_, (z a ha).2⟩⟩
  obtain ⟨u, e1, e2⟩ := hr a ha
  cases q : Hs' a with
  | none => rfl
  | some w =>
    rcases g.n a (by rw [q]; simp) with y | y
    · exact absurd (z a ha).1 y
    · rw [e1] at y; cases y
def PostL (cl : Cl) (k : Kd) (Hs H : Hp) (Q : List V → Hp → Prop) (W : WX0) : R (List D) → Prop
  | .stuck => False
  | .exc x => ∀ c dd Hs' H', Grow Hs H Hs' H' → XRep cl Hs' H' x c dd → W c dd H'
  | .ok ds => ∀ vs Hs' H', Grow Hs H Hs' H' → RLs cl k H Hs' H' ds vs → Q vs H'
end
structure SLO [md : Md] (X : Cx) (E : En) (ks : List Kd) (k : Kd) (es : List Expr) (g : Sl → R (List D)) : Prop where
  run : ∀ (Hs H : Hp) (r : Sl) (σ : L2.St) (W : WX) (Q : List V → Hp → Prop), Takes X W → StRel E Hs H ks r σ → PostL E.cl k Hs H Q (fun c dd H' => W c dd σ H') (g r) → WAx X es σ H Q
section
variable {X : Cx} {E : En} {ks : List Kd} {k : Kd} {e : Expr} {es : List Expr} {g : Sl → R D} {t : Sl → R (List D)} {pos : Pos}
theorem so_nil : SLO X E ks k [] gNil := ⟨fun Hs H r σ W Q tk S P => wa_of pa_nil (P [] Hs H (Grow.refl S.sub) ⟨[], .nil, List.nodup_nil, fun a ha => nomatch ha⟩)⟩
theorem so_cons (he : SE X E ks k e g) (ht : SLO X E ks k es t) (fk : k.fine = true := by rfl) (hs : starEach (e :: es) X.env = (false, eval e X.env) :: starEach es X.env := by rfl) : SLO X E ks k (e :: es) (gCons g t) := by
  refine ⟨fun Hs H r σ W Q tk S P => ?_⟩
  refine wa_of (pa_cons pe_we pa_wa hs) ?_
  refine he.run _ _ _ _ _ _ tk S ?_
  unfold gCons at P
  cases q : g r with
  | stuck => rw [q] at P; exact P
  | exc x => rw [q] at P; exact P
  | ok d =>
    rw [q] at P
    intro v Hs1 H1 g1 k1
    refine ht.run _ _ _ _ _ _ tk (S.grow g1) ?_
    cases q2 : t r with
    | stuck => rw [q2] at P; exact P
    | exc x => rw [q2] at P; exact fun c dd Hs2 H2 g2 xr => P c dd Hs2 H2 (g1.trans g2) xr
    | ok ds =>
      rw [q2] at P
      intro vs Hs2 H2 g2 a2
      refine P _ Hs2 H2 (g1.trans g2) ?_
      obtain ⟨A, o1, nd, z1⟩ := k1
      obtain ⟨o, z⟩ := RK.growA fk g2 o1 z1
      obtain ⟨As, os, nds, zs⟩ := a2
      refine ⟨A ++ As, .cons o (os.newN fk fun a ha => g1.h.free (zs a ha).2), List.nodup_append.mpr ⟨nd, nds, fun a ha b hb w => ?_⟩, fun a ha => ?_⟩
      · obtain ⟨u, hu, nt⟩ := ORep.here _ _ _ _ o1 a ha
        rw [w, (zs b hb).2] at hu
        cases hu
      · rcases List.mem_append.mp ha with w | w
        · exact z a w
        · exact ⟨(zs a w).1, g1.h.free (zs a w).2⟩
end

section
variable {X : Cx} {E : En} {Hs H : Hp} {ks : List Kd} {r : Sl} {σ : L2.St} {i : Nat} {k : Kd}
theorem StRel.freezeK (S : StRel E Hs H ks r σ) (hk : ks[i]? = some k) (fk : k.fine = true) : ∃ Hs2, Same Hs Hs2 ∧ StRel E Hs2 H (ks.set i .val) r σ := by
  obtain ⟨As, S⟩ := S
  cases hr : r[i]? with
  | none =>
    have l := S.sl.len
    have hi : i < ks.length := (List.getElem?_eq_some_iff.mp hk).1
    have : r.length ≤ i := List.getElem?_eq_none_iff.mp hr
    omega
  | some o =>
    obtain ⟨pre, A, post, e, q1, q2, q4, q3⟩ := S.sl.at_ i hk
    have e5 : r.set i o = r := by
      obtain ⟨h, e2⟩ := List.getElem?_eq_some_iff.mp hr
      rw [← e2, List.set_getElem_self]
    cases o with
    | none =>
      have l := S.sl.len
      have hi : i < σ.length := by rw [l.2]; exact (List.getElem?_eq_some_iff.mp hk).1
      have z := q4 .val σ[i]
      rw [e5, List.set_getElem_self] at z
      have sub : (pre ++ post).Sublist As := by
        rw [e]
        exact List.Sublist.append (List.Sublist.refl _) (List.sublist_append_right _ _)
      exact ⟨Hs, Same.refl _, _, z, S.nd.sublist sub, fun a ha => S.dis a (sub.subset ha), S.es, S.sub, S.eb, S.new, S.dom, S.tb⟩
    | some d =>
      obtain ⟨v, ev, o⟩ := q1 d hr
      have e3 : σ.set i (some v) = σ := by
        obtain ⟨h, e2⟩ := List.getElem?_eq_some_iff.mp ev
        rw [← e2, List.set_getElem_self]
      have nd := S.nd
      rw [e] at nd
      have nA : ∀ a ∈ A, E.h a = none := fun a ha => (ORep.dat _ _ _ _ o a ha).2
      have inA : ∀ a ∈ A, a ∈ As := fun a ha => by rw [e]; exact List.mem_append_right _ (List.mem_append_left _ ha)
      have pS : Same Hs (plus Hs H A) := plus_same fun a ha => (S.dis a (inA a ha)).1
      have rp : Rep E.cl (plus Hs H A) d v := ORep.freeze pS _ _ _ _ fk (fun a ha => by unfold plus; rw [if_pos ha]) o
      have z := q3 (plus Hs H A) H pS (fun _ _ => rfl) .val d v [] (.val rp)
      rw [e5, e3] at z
      have sub : (pre ++ ([] ++ post)).Sublist As := by
        rw [e]
        exact List.Sublist.append (List.Sublist.refl _) (by rw [List.nil_append]; exact List.sublist_append_right _ _)
      refine ⟨plus Hs H A, pS, _, z, S.nd.sublist sub, fun a ha => ⟨?_, (S.dis a (sub.subset ha)).2⟩, S.es.trans pS, plus_sub S.sub, S.eb, fun a q => ?_, S.dom, S.tb⟩
      · have hn : a ∉ A := fun w => by
          have ha' : a ∈ pre ++ post := by simpa using ha
          rcases List.mem_append.mp ha' with q | q
          · exact (List.nodup_append.mp nd).2.2 _ q _ (List.mem_append_left _ w) rfl
          · exact (List.nodup_append.mp (List.nodup_append.mp nd).2.1).2.2 _ w _ q rfl
        unfold plus
        rw [if_neg hn]
        exact (S.dis a (sub.subset ha)).1
      · unfold plus at q
        split at q
        · rename_i w
          exact .inr (nA a w)
        · exact S.new a q
@[simp] def gScal (g : Sl → R D) : Sl → R D := fun r => match g r with
  | .ok d => if d.scal then .ok d else .stuck
  | _ => .stuck
theorem se_scal {e : Expr} {g : Sl → R D} (he : SE X E (ks.set i .val) .val e g) (hk : ks[i]? = some k := by rfl) (fk : k.fine = true := by rfl) : SE X E ks .val e (gScal g) := by
  refine ⟨fun Hs H r σ W Q tk S P => ?_⟩
  obtain ⟨Hs2, s2, S2⟩ := S.freezeK hk fk
  refine he.run _ _ _ _ _ _ tk S2 ?_
  unfold gScal at P
  cases q : g r with
  | stuck => rw [q] at P; exact P.elim
  | exc x => rw [q] at P; exact P.elim
  | ok d =>
    rw [q] at P
    dsimp only at P
    intro v Hs' H' g1 k1
    split at P
    · rename_i sc
      exact P v Hs H' (Grow.same S.sub g1.h g1.t) (RK.val (Rep.scal k1.rep sc))
    · exact P.elim
end
section
variable {X : Cx} {E : En} {kr : Kd} {fin : List Kd → Prop} {ks : List Kd} {i j : Nat} {n m : Option Addr} {x y : Str} {e : Expr} {g : Sl → R D} {pos p1 p2 p3 p4 p5 p6 : Pos}
end
end VL
end

noncomputable section
namespace VL
open PySem PySem.Spec PyProof.Rows L2
variable {md : Md}

def tup1 : D → Bool
  | .tup (_ :: _) => true
  | _ => false
section
variable {X : Cx}
end
end VL
end

noncomputable section
namespace VL
open PySem PySem.Spec PyProof.Rows L2
variable {md : Md}

section
variable {X : Cx} {E : En} {ks : List Kd} {e o : Expr} {g go : Sl → R D} {pos p apos cpos : Pos} {es : List Expr} {t : Sl → R (List D)}
end
section
variable {X : Cx} {E : En} {ks : List Kd} {e o : Expr} {g go : Sl → R D} {pos p apos cpos : Pos} {es : List Expr} {t : Sl → R (List D)}
end
end VL
end

noncomputable section
namespace VL
open PySem PySem.Spec PyProof.Rows L2
variable {md : Md}

open Classical in
def sw (a : Addr) (u o : HO) (f : Hp) : Hp := fun b => if b = a ∧ f b = some u then some o else f b
section
variable {a : Addr} {u o : HO} {f g : Hp}
theorem sw_at (h : f a = some u) : sw a u o f a = some o := by unfold sw; rw [if_pos ⟨rfl, h⟩]
theorem sw_ne {b : Addr} (h : b ≠ a) : sw a u o f b = f b := by unfold sw; rw [if_neg fun z => h z.1]
theorem sw_no {b : Addr} (h : f b ≠ some u) : sw a u o f b = f b := by unfold sw; rw [if_neg fun z => h z.2]
theorem sw_none {b : Addr} : sw a u o f b = none ↔ f b = none := by
  unfold sw
  split
  · rename_i z
    rw [z.2]
    exact ⟨fun w => (nomatch w), fun w => (nomatch w)⟩
  · exact Iff.rfl
theorem sw_keep {b : Addr} {y : HO} (h : f b = some y) (n : y ≠ u) : sw a u o f b = some y := by
  rw [sw_no fun z => n (by rw [h] at z; exact Option.some.inj z)]
  exact h
theorem Same.sw (nt : NT u) (e : Same f g) : Same (sw a u o f) (sw a u o g) := ⟨fun b y q n => by
  by_cases c : b = a ∧ f b = some u
  · obtain ⟨rfl, c⟩ := c
    rw [sw_at c] at q
    rw [sw_at (e.at _ _ c nt)]
    exact q
  · have q2 : f b = some y := by
      unfold VL.sw at q
      rw [if_neg c] at q
      exact q
    have g2 : g b = some y := e.k b y q2 (n.imp id fun z => sw_none.mp z)
    by_cases d : b = a
    · subst d
      exact sw_keep g2 fun z => c ⟨rfl, by rw [q2, z]⟩
    · rw [sw_ne d]; exact g2⟩
theorem tab_sw {P : Addr} (nt : NT u) (nc : ∀ c q, u ≠ LamX.CodeO c q) (z : LamX.TabS f P lamQ) : LamX.TabS (VL.sw a u o f) P lamQ := by
  obtain ⟨ps, h1, h2, h3⟩ := z
  refine ⟨ps, sw_keep h1 fun w => nt ps w.symm, h2, fun pos cv hc => ?_⟩
  obtain ⟨c, e1, e2⟩ := h3 pos cv hc
  exact ⟨c, e1, sw_keep e2 fun w => nc c lamQ w.symm⟩
end
/-- open, locked -/
inductive Two (xs : List (Key × V)) : HO → HO → Prop
  | lock {od : Obj} : Two xs (.dK xs) (.frz od (.dK xs))
  | open_ {od : Obj} : Two xs (.frz od (.dK xs)) (.dK xs)
section
variable {a : Addr} {u o : HO} {xs : List (Key × V)} {cl : Cl} {H Hs B : Hp}
theorem Two.ntU (t : Two xs u o) : NT u := by cases t <;> (intro _ z; cases z)
theorem Two.nc (t : Two xs u o) : ∀ c q, u ≠ LamX.CodeO c q := by
  cases t <;> (intro _ _ z; unfold LamX.CodeO at z; cases z)
theorem Two.ne (t : Two xs u o) : u ≠ o := by cases t <;> (intro z; cases z)
theorem Two.lst (t : Two xs u o) (ys : List V) : HO.lst ys ≠ u := by cases t <;> (intro z; cases z)
theorem Two.tup (t : Two xs u o) (ys : List V) : HO.tup ys ≠ u := by cases t <;> (intro z; cases z)
theorem Two.ins (t : Two xs u o) (c dx : Addr) (ys : List (Str × V)) : HO.ins c dx ys ≠ u := by cases t <;> (intro z; cases z)
theorem Two.xd (t : Two xs u o) (ys : List (Str × V)) : HO.xd ys ≠ u := by cases t <;> (intro z; cases z)
theorem Two.rd (t : Two xs u o) {p : Addr} {ys : List (Key × V)} (h : Rd H p (.dK ys)) : Rd (sw a u o H) p (.dK ys) := by
  by_cases c : p = a ∧ H p = some u
  · obtain ⟨rfl, c⟩ := c
    have e := sw_at (o := o) c
    cases t with
    | lock =>
      rename_i od
      rcases h with h | ⟨o2, h⟩
      · rw [c] at h; cases h; exact .inr ⟨od, e⟩
      · rw [c] at h; cases h
    | open_ =>
      rcases h with h | ⟨o2, h⟩
      · rw [c] at h; cases h
      · rw [c] at h; cases h; exact .inl e
  · have e : sw a u o H p = H p := by unfold sw; rw [if_neg c]
    unfold Rd
    rw [e]
    exact h
theorem Two.seq (t : Two xs u o) {K : PySem.W.Frag} {p : Addr} {ys : List V} (h : SqL K H p ys) : SqL K (sw a u o H) p ys := by
  rcases h with (h | ⟨o2, h⟩) | h
  · exact .inl (.inl (sw_keep h (t.lst _)))
  · exact .inl (.inr ⟨o2, sw_keep h (by cases t <;> (intro z; cases z))⟩)
  · exact .inr h
mutual
theorem Rep.sw (t : Two xs u o) : ∀ (d : D) (v : V), Rep cl H d v → Rep cl (sw a u o H) d v
  | .non, _, h => by cases h; exact .non
  | .bl b, _, h => by cases h; exact .bl b
  | .int i, _, h => by cases h; exact .int i
  | .str x, _, h => by cases h; exact .str x
  | .lst ds, _, h => by
    cases h with
    | lst h1 h2 => exact .lst (sw_keep h1 (t.lst _)) (RepL.sw t ds _ h2)
  | .tup ds, _, h => by
    cases h with
    | tup h1 h2 => exact .tup (sw_keep h1 (t.tup _)) (RepL.sw t ds _ h2)
  | .dct ds, _, h => by
    cases h with
    | dct h1 h2 => exact .dct (t.rd h1) (RepK.sw t ds _ h2)
  | .obj C ds, _, h => by
    cases h with
    | obj h0 h1 h2 => exact .obj h0 (sw_keep h1 (t.ins _ _ _)) (RepF.sw t ds _ h2)
  | .scr ns, _, h => by
    cases h with
    | scr h1 => exact .scr (t.seq h1)
theorem RepL.sw (t : Two xs u o) : ∀ (ds : List D) (vs : List V), RepL cl H ds vs → RepL cl (sw a u o H) ds vs
  | [], _, h => by cases h; exact .nil
  | d :: ds, _, h => by
    cases h with
    | cons h1 h2 => exact .cons (Rep.sw t d _ h1) (RepL.sw t ds _ h2)
theorem RepK.sw (t : Two xs u o) : ∀ (ds : List (Key × D)) (vs : List (Key × V)), RepK cl H ds vs → RepK cl (sw a u o H) ds vs
  | [], _, h => by cases h; exact .nil
  | (k, d) :: ds, _, h => by
    cases h with
    | cons h1 h2 => exact .cons (Rep.sw t d _ h1) (RepK.sw t ds _ h2)
theorem RepF.sw (t : Two xs u o) : ∀ (ds : List (Str × D)) (vs : List (Str × V)), RepF cl H ds vs → RepF cl (sw a u o H) ds vs
  | [], _, h => by cases h; exact .nil
  | (k, d) :: ds, _, h => by
    cases h with
    | cons h1 h2 => exact .cons (Rep.sw t d _ h1) (RepF.sw t ds _ h2)
end
mutual
theorem RB.sw (t : Two xs u o) : ∀ {d : D} {v : V}, RB cl Hs B d v → RB cl (sw a u o Hs) (sw a u o B) d v
  | _, _, .val r => .val (Rep.sw t _ _ r)
  | _, _, .lst h1 h2 => .lst (sw_keep h1 (t.lst _)) (RepL.sw t _ _ h2)
  | _, _, .dct h1 h2 => .dct (t.rd h1) (RepK.sw t _ _ h2)
  | _, _, .obj h0 h1 h2 => .obj h0 (sw_keep h1 (t.ins _ _ _)) (RBF.sw t h2)
theorem RBF.sw (t : Two xs u o) : ∀ {ds : List (Str × D)} {vs : List (Str × V)}, RBF cl Hs B ds vs → RBF cl (sw a u o Hs) (sw a u o B) ds vs
  | _, _, .nil => .nil
  | _, _, .cons x y => .cons (RB.sw t x) (RBF.sw t y)
end
variable {N : Addr → Prop}
mutual
theorem ORep.sw (t : Two xs u o) : ∀ (k : Kd) (d : D) (v : V) (A : List Addr), (∀ b ∈ A, b ≠ a) → ORep cl N B Hs H k d v A → ORep cl N (sw a u o B) (sw a u o Hs) (sw a u o H) k d v A
  | .val, d, v, _, _, h => by
    cases h with
    | val h1 => exact .val (Rep.sw t _ _ h1)
  | .bor, d, v, _, _, h => by
    cases h with
    | borV h1 => exact .borV (Rep.sw t _ _ h1)
    | borL h1 h2 => exact .borL (sw_keep h1 (t.lst _)) (RepL.sw t _ _ h2)
    | borK h1 h2 => exact .borK (t.rd h1) (RepK.sw t _ _ h2)
    | borO h0 h1 h2 => exact .borO h0 (sw_keep h1 (t.ins _ _ _)) (RBF.sw t h2)
  | .own n, d, v, _, k, h => by
    cases h with
    | ownL h0 h1 h2 => exact .ownL h0 (sw_keep h1 (t.lst _)) (RepL.sw t _ _ h2)
    | ownK h0 h1 h2 => exact .ownK h0 (by rw [sw_ne (k _ List.mem_cons_self)]; exact h1) (RepK.sw t _ _ h2)
    | ownV h0 h1 => exact .ownV h0 (Rep.sw t _ _ h1)
  | .obj n ks, d, v, _, k, h => by
    cases h with
    | obj h0 h1 h2 h3 => exact .obj h0 h1 (sw_keep h2 (t.ins _ _ _)) (OFs.sw t ks _ _ _ (fun b hb => k b (List.mem_cons_of_mem _ hb)) h3)
  | .adr p, d, v, _, _, h => by
    cases h with
    | adr => exact .adr
  | .lls n kd, d, v, _, k, h => by
    cases h with
    | lls h0 h1 h2 => exact .lls h0 (sw_keep h1 (t.lst _)) (OLs.imp (fun A => ∀ b ∈ A, b ≠ a) (fun _ _ t b hb => t b (List.mem_append_left _ hb)) (fun _ _ t b hb => t b (List.mem_append_right _ hb)) (fun d v A q r => ORep.sw t kd d v A q r) (fun b hb => k b (List.mem_cons_of_mem _ hb)) h2)
    | llT h0 h1 h2 => exact .llT h0 (sw_keep h1 (t.tup _)) (OLs.imp (fun A => ∀ b ∈ A, b ≠ a) (fun _ _ t b hb => t b (List.mem_append_left _ hb)) (fun _ _ t b hb => t b (List.mem_append_right _ hb)) (fun d v A q r => ORep.sw t kd d v A q r) (fun b hb => k b (List.mem_cons_of_mem _ hb)) h2)
    | llV h0 h1 => exact .llV h0 (Rep.sw t _ _ h1)
theorem OFs.sw (t : Two xs u o) : ∀ (ks : List (Str × Kd)) (ds : List (Str × D)) (vs : List (Str × V)) (A : List Addr), (∀ b ∈ A, b ≠ a) → OFs cl N B Hs H ks ds vs A → OFs cl N (sw a u o B) (sw a u o Hs) (sw a u o H) ks ds vs A
  | [], _, _, _, _, h => by cases h; exact .nil
  | (f, kd) :: ks, _, _, _, k, h => by
    cases h with
    | cons h1 h2 => exact .cons (ORep.sw t kd _ _ _ (fun b hb => k b (List.mem_append_left _ hb)) h1) (OFs.sw t ks _ _ _ (fun b hb => k b (List.mem_append_right _ hb)) h2)
end
end
/-- the entry, a dict's object exchanged -/
def En.sw (E : En) (a : Addr) (u o : HO) : En := ⟨E.cl, E.h, VL.sw a u o E.s, VL.sw a u o E.b⟩
section
variable {E : En} {Hs H : Hp} {ks : List Kd} {r : Sl} {σ : L2.St} {a : Addr} {u o : HO} {xs : List (Key × V)}
theorem Slots.sw (t : Two xs u o) : ∀ {ks : List Kd} {r : Sl} {σ : L2.St} {As : List Addr}, (∀ b ∈ As, b ≠ a) → Slots E Hs H ks r σ As → Slots (E.sw a u o) (VL.sw a u o Hs) (VL.sw a u o H) ks r σ As
  | _, _, _, _, _, .nil => .nil
  | _, _, _, _, k, .skip h => .skip (Slots.sw t k h)
  | _, _, _, _, k, .cons h1 h2 => .cons (ORep.sw t _ _ _ _ (fun b hb => k b (List.mem_append_left _ hb)) h1) (Slots.sw t (fun b hb => k b (List.mem_append_right _ hb)) h2)
theorem StRel.sw (t : Two xs u o) (ha : Hs a ≠ none) (S : StRel E Hs H ks r σ) : StRel (E.sw a u o) (VL.sw a u o Hs) (VL.sw a u o H) ks r σ := by
  obtain ⟨As, S⟩ := S
  have off : ∀ b ∈ As, b ≠ a := fun b hb z => ha (by rw [← z]; exact (S.dis b hb).1)
  exact ⟨As, Slots.sw t off S.sl, S.nd, fun b hb => ⟨sw_none.mpr (S.dis b hb).1, (sw_none (a := a) (u := u) (o := o) (f := E.b)).mpr (S.dis b hb).2⟩, S.es.sw t.ntU, S.sub.sw t.ntU, S.eb.sw t.ntU,
    fun b z => (S.new b (fun w => z (sw_none.mpr w))).imp (fun w q => w ((sw_none (a := a) (u := u) (o := o) (f := E.s)).mp q)) id, fun b z => S.dom b (sw_none.mp z), fun P z => tab_sw t.ntU t.nc (S.tb P z)⟩
end

section
variable {X : Cx} {E : En} {kr : Kd} {ks : List Kd} {pos p1 : Pos} {i : Nat} {x : Str}
end
end VL
end

noncomputable section
namespace VL
open PySem PySem.Spec PyProof.Rows L2
variable {md : Md}

section
variable {prog : Program} {w : World} {A : Around} {E : Value → Shared → Prop} {s : Shared}
end
section
variable {X : Cx} {E : En} {ks : List Kd} {a b : Expr} {ga gb : Sl → R D} {p p2 q pos : Pos}
end
end VL
end

noncomputable section
namespace VL
open PySem PySem.Spec PyProof.Rows L2
variable {md : Md}

theorem OLs.app {cl : Cl} {N : Addr → Prop} {B Hs H : Hp} {k : Kd} : ∀ {ds : List D} {xs : List V} {As : List Addr} {es : List D} {ys : List V} {Bs : List Addr}, OLs cl N B Hs H k ds xs As → OLs cl N B Hs H k es ys Bs → OLs cl N B Hs H k (ds ++ es) (xs ++ ys) (As ++ Bs)
  | _, _, _, _, _, _, .nil, h => h
  | _, _, _, _, _, _, .cons o t, h => by
    rw [List.append_assoc]
    exact .cons o (OLs.app t h)
section
variable {E : En} {Hs H : Hp} {ks : List Kd} {r : Sl} {σ : L2.St} {n m : Option Addr} {k : Kd} {ds es : List D} {v w : V}
end
section
variable {X : Cx} {E : En} {kr : Kd} {fin : List Kd → Prop} {ks ks' : List Kd} {i : Nat} {k : Kd} {x : Str} {e : Expr} {g : Sl → R D} {pos p1 p2 p3 : Pos}
end
section
variable {X : Cx} {E : En} {kr : Kd} {fin : List Kd → Prop} {ks : List Kd} {i j : Nat} {n m : Option Addr} {x y : Str} {e : Expr} {g : Sl → R D} {pos p1 p2 p3 p4 p5 p6 p7 p8 p9 p10 : Pos}
end

section
variable {X : Cx} {E : En} {ks : List Kd} {i j : Nat} {n m : Option Addr} {x y : Str} {scope : Scope} {pos p1 p2 p3 p4 p5 : Pos}
end

@[simp] def gScalT (g : Sl → R Bool) : Sl → R Bool := fun r => match g r with
  | .ok b => .ok b
  | _ => .stuck
theorem st_lend {X : Cx} {E : En} {ks : List Kd} {i : Nat} {k : Kd} {e : Expr} {g : Sl → R Bool} (he : ST X E (ks.set i .val) e g) (hk : ks[i]? = some k := by rfl) (fk : k.fine = true := by rfl) : ST X E ks e (gScalT g) := by
  refine ⟨fun Hs H r σ W Q tk S P => ?_⟩
  obtain ⟨Hs2, s2, S2⟩ := S.freezeK hk fk
  refine he.run _ _ _ _ _ _ tk S2 ?_
  unfold gScalT at P
  cases q : g r with
  | stuck => rw [q] at P; exact P.elim
  | exc x => rw [q] at P; exact P.elim
  | ok b =>
    rw [q] at P
    exact fun Hs' H' g1 => P Hs H' (Grow.same S.sub g1.h g1.t)
end VL
end

noncomputable section
namespace VL
open PySem PySem.Spec PyProof.Rows L2
variable {md : Md}

section
variable {X : Cx} {E : En} {ks : List Kd} {e : Expr} {g : Sl → R D} {C f : Str} {pos : Pos}
end
section
variable {X : Cx} {E : En} {ks : List Kd} {o e : Expr} {es : List Expr} {go : Sl → R D} {t : Sl → R (List D)} {C m : Str} {k : Nat} {b0 : Bool} {bs : List Bool} {kr : Kd} {f : List D → R D} {apos pos : Pos}
theorem RK.kd {cl : Cl} {H0 Hs H : Hp} {d : D} {v : V} {b0 : Bool} (h : RK cl (kdOf b0) H0 Hs H d v) : RB cl Hs H d v := by
  cases b0 with
  | true => exact .val (RK.rep h)
  | false => exact RK.rb h
theorem RAs.kd {cl : Cl} {Hs H H0 Hs' H' : Hp} {d : D} {v : V} {b0 : Bool} {bs : List Bool} {ds : List D} {vs : List V} (h : RK cl (kdOf b0) H0 Hs H d v) (g : Grow Hs H Hs' H') (a : RAs cl Hs' H' bs ds vs) : RAs cl Hs' H' (b0 :: bs) (d :: ds) (v :: vs) := by
  cases b0 with
  | true => exact .val (Rep.same g.s _ _ (RK.rep h)) a
  | false => exact .bor ((RK.rb h).grow g) a
end
section
variable {X : Cx} {E : En} {ks : List Kd} {e o : Expr} {es : List Expr} {t : Sl → R (List D)} {p pos : Pos}
end

section
variable {E : En} {Hs H : Hp} {ks : List Kd} {r : Sl} {σ : L2.St} {i j : Nat} {n : Option Addr} {kk : List (Str × Kd)} {f C : Str} {ds : List (Str × D)}
end
def delD (ds : List (Key × D)) (k : Key) : List (Key × D) := ds.filter fun kv => decide (kv.1 ≠ k)
theorem RepK.del {cl : Cl} {H : Hp} (k : Key) : ∀ {ds : List (Key × D)} {xs : List (Key × V)}, RepK cl H ds xs → RepK cl H (delD ds k) (dropK xs k)
  | [], _, h => by cases h; exact .nil
  | (k0, d) :: ds, _, h => by
    cases h with
    | cons h1 h2 =>
      by_cases c : k0 = k
      · simpa [delD, dropK, List.filter_cons, c] using RepK.del k h2
      · have z := RepK.cons (k := k0) h1 (RepK.del k h2)
        simpa [delD, dropK, List.filter_cons, c] using z
section
variable {X : Cx} {E : En} {fin : List Kd → Prop} {kr : Kd} {ks ks' : List Kd} {i j : Nat} {n m0 : Option Addr} {kk : List (Str × Kd)} {C f x : Str} {e e2 : Expr} {g g2 : Sl → R D} {p0 p1 p2 p3 pos : Pos} {sts : List Stmt} {m : Sl → O}
end
end VL
end

noncomputable section
namespace VL
open PySem PySem.Spec PyProof.Rows L2
variable {md : Md}

section
variable {X : Cx} {E : En} {ks : List Kd} {e f o : Expr} {g gf go : Sl → R D} {pos apos cpos : Pos}
end
section
variable {X : Cx} {E : En} {fin : List Kd → Prop} {kr : Kd} {ks : List Kd} {i : Nat} {n : Option Addr} {x : Str} {e : Expr} {g : Sl → R D} {p1 p2 p3 pos : Pos}
end
end VL
end

noncomputable section
namespace VL
open PySem PySem.Spec PyProof.Rows L2
variable {md : Md}

section
variable {E : En} {Hs H Hs' H' : Hp} {ks : List Kd} {r : Sl} {σ : L2.St}
end
def Kd.nm : Kd → Option Addr
  | .own n => n
  | .obj n _ => n
  | .lls n _ => n
  | _ => none
section
variable {cl : Cl} {N : Addr → Prop} {B Hs H : Hp}
end
section
variable {X : Cx} {E : En} {ks : List Kd} {is : List Nat} {fr : Bool} {bs : List Bool} {es : List Expr} {t : Sl → R (List D)} {i : Nat} {x : Str} {p pos : Pos}
end
section
variable {X : Cx} {E : En} {fin : List Kd → Prop} {kr : Kd} {ks ks' : List Kd} {is : List Nat} {kf : List Kd} {k n : Nat} {bs0 : Bool} {k1 k2 : List Kd} {bs : List Bool} {x : Str} {e : Expr} {es : List Expr} {f : List D → O} {t : Sl → R (List D)} {p pos : Pos}
end
end VL
end

noncomputable section
namespace VL
open PySem PySem.Spec PyProof.Rows L2
variable {md : Md}

section
variable {X : Cx} {E : En} {fin : List Kd → Prop} {kr : Kd} {ks ks' : List Kd} {i : Nat} {n : Option Addr} {x : Str} {p1 p2 p3 pos : Pos}
end

section
variable {X : Cx} {E : En} {fin : List Kd → Prop} {kr : Kd} {ks ks' : List Kd} {k : Nat} {b0 : Bool} {bs : List Bool} {x : Str} {e : Expr} {es : List Expr} {f : List D → R D} {g : Sl → O} {t : Sl → R (List D)} {p pos : Pos}
end

section
variable {X : Cx} {E : En} {fin : List Kd → Prop} {kr : Kd} {ks ks1 ks' : List Kd} {e a b : Expr} {rest : List Expr} {g ga : Sl → O} {tb : Sl → R Bool} {m1 m2 : Sl → O} {s1 s2 : List Stmt} {pos : Pos}
end
end VL
end

noncomputable section
namespace VL
open PySem PySem.Spec PyProof.Rows L2
open ModeZ

/-- the lambda object at f, with its code object at cN -/
def LamO (X : Cx) (f cN : Addr) (params : Arguments) (body : Expr) (scope : Scope) : HO := .ext fun h => ∃ pm ctv : Value, h.get? f = some (PySem.W.kla_obj "<lambda>" (X.env.qual ++ "<lambda>") params body scope (cloFrom X.env.cells scope.names []) pm cN ctv)
theorem lamO_nt {X : Cx} {f cN : Addr} {params : Arguments} {body : Expr} {scope : Scope} : NT (LamO X f cN params body scope) := fun ps z => by
  unfold LamO at z
  cases z
section
variable {X : Cx} {pins : List (Addr × Obj)} {σ : L2.St} {H : Hp} {s : Shared}
end
section
variable {X : Cx} {E : En} {fin : List Kd → Prop} {kr : Kd} {ks ks' : List Kd} {k : Nat}
/-- at f stands a lambda that does what g tells -/
def Acts (X : Cx) (E : En) (fin : List Kd → Prop) (kr : Kd) (ks ks' : List Kd) (k : Nat) (f : Addr) (H : Hp) (g : Sl → O) : Prop := ∃ (params : Arguments) (body : Expr) (scope : Scope) (cN : Addr), H f = some (LamO X f cN params body scope) ∧ H cN = some (LamX.CodeO cN (X.env.qual ++ "<lambda>")) ∧ LamX.LamS X.env.scope scope ∧
  (∀ (q : Str) (cl : List (Str × Addr)) (pm cv ctv : Value), bindArgs (PySem.W.kla_fn "<lambda>" q params body scope cl pm cv ctv) ⟨[], []⟩ = pure []) ∧
  ∀ (A : Around) (outer : List Env) (s1 : Shared) (H1 : Hp) (Ex : XK), Room k (A.deeper (LamX.lamEnv X scope s1.heap.objs.size f cN)) → SX (LamX.lamCx X A outer s1 H1 Ex scope f cN) E fin ks kr body g ks'
theorem Acts.same {f : Addr} {H H' : Hp} {g : Sl → O} (h : Acts X E fin kr ks ks' k f H g) (e : Same H H') : Acts X E fin kr ks ks' k f H' g := by
  obtain ⟨params, body, scope, cN, h1, h2, h3⟩ := h
  exact ⟨params, body, scope, cN, e.at _ _ h1 lamO_nt, e.at _ _ h2 (fun ps => codeO_tbl ps), h3⟩
def AllC (X : Cx) (E : En) (fin : List Kd → Prop) (kr : Kd) (ks ks' : List Kd) (k : Nat) (H : Hp) : List (Str × (Sl → O)) → List (Str × Addr) → Prop
  | [], [] => True
  | p :: gs, q :: fs => p.1 = q.1 ∧ Acts X E fin kr ks ks' k q.2 H p.2 ∧ AllC X E fin kr ks ks' k H gs fs
  | _, _ => False
theorem AllC.same {H H' : Hp} (e : Same H H') : ∀ {gs : List (Str × (Sl → O))} {fs : List (Str × Addr)}, AllC X E fin kr ks ks' k H gs fs → AllC X E fin kr ks ks' k H' gs fs
  | [], [], h => h
  | [], _ :: _, h => h.elim
  | _ :: _, [], h => h.elim
  | p :: gs, q :: fs, h => ⟨h.1, h.2.1.same e, AllC.same e h.2.2⟩
theorem AllC.imp {H H' : Hp} (e : ∀ b o, H b = some o → o ≠ .dK [] → H' b = some o) : ∀ {gs : List (Str × (Sl → O))} {fs : List (Str × Addr)}, AllC X E fin kr ks ks' k H gs fs → AllC X E fin kr ks ks' k H' gs fs
  | [], [], h => h
  | [], _ :: _, h => h.elim
  | _ :: _, [], h => h.elim
  | p :: gs, q :: fs, h => by
    obtain ⟨h1, ⟨params, body, scope, cN, b1, b2, b3⟩, h3⟩ := h
    exact ⟨h1, ⟨params, body, scope, cN, e _ _ b1 (fun z => by unfold LamO at z; cases z), e _ _ b2 (fun z => by unfold LamX.CodeO at z; cases z), b3⟩, AllC.imp e h3⟩
end
end VL
end

noncomputable section
namespace VL
open PySem PySem.Spec PyProof.Rows L2
open ModeZ

section
variable {X : Cx} {E : En} {kr : Kd} {fin : List Kd → Prop} {ks ks' : List Kd}
end
end VL
end

noncomputable section
namespace VL
open PySem PySem.Spec PyProof.Rows L2
open ModeZ

theorem XRep.same {cl : Cl} {Hs Hs' H H' : Hp} {x : Exc} {c : Value} {dd : Option Addr} (e : Same Hs Hs') (h : XRep cl Hs H x c dd) : XRep cl Hs' H' x c dd := by
  obtain ⟨a, e1, e2, e3⟩ := h
  refine ⟨a, e1, e2, ?_⟩
  cases q : x.at_ with
  | none => rw [q] at e3; exact e3
  | some d =>
    rw [q] at e3
    obtain ⟨p, v, f1, f2, f3⟩ := e3
    exact ⟨p, v, f1, e.at _ _ f2, Rep.same e _ _ f3⟩
end VL
end

noncomputable section
namespace VL
open PySem PySem.Spec PyProof.Rows L2
section
variable {md : Md}
section
variable {P : Program} {w : World} {K : PySem.W.Frag} {mg : Str → Option Value} {base : Heap} {cl : Cl} {x qual : Str} {st : Stmt} {fa : Addr} {fd : FuncData} {N ps : List Str} {k : Nat} {bs : List Bool} {kr : Kd} {k1 k2 ls : List Kd} {m : Sl → O}
end
section
variable {X : Cx} {E : En} {fin : List Kd → Prop} {kr : Kd} {ks ks' : List Kd} {is : List Nat} {kf : List Kd} {k n : Nat} {bs0 : Bool} {k1 k2 : List Kd} {bs : List Bool} {x : Str} {e : Expr} {es : List Expr} {f : List D → O} {t : Sl → R (List D)} {p pos : Pos} {kz : Kd}
end
end
open ModeZ
end VL
end

noncomputable section
namespace VL
open PySem PySem.Spec PyProof.Rows L2
variable {md : Md}

def zipD (ds es : List D) : List D := (ds.zip es).map fun p => .tup [p.1, p.2]
theorem zipD_get {ds es : List D} {i : Nat} {d : D} (h : (zipD ds es)[i]? = some d) : ∃ d0 e0, ds[i]? = some d0 ∧ es[i]? = some e0 ∧ d = .tup [d0, e0] := by
  unfold zipD at h
  rw [List.getElem?_map] at h
  cases q : (ds.zip es)[i]? with
  | none => rw [q] at h; cases h
  | some p =>
    rw [q] at h
    obtain ⟨h1, h2⟩ := List.getElem?_zip_eq_some.mp q
    cases h
    exact ⟨_, _, h1, h2, rfl⟩
theorem zipD_len (ds es : List D) : (zipD ds es).length = min ds.length es.length := by unfold zipD; rw [List.length_map, List.length_zip]
theorem ItOk.zip {K : PySem.W.Frag} {cl : Cl} {a b : Addr} {xs ys : List V} {ds es : List D} {Hs Bq : Hp} (rp : RepL cl Hs ds xs) (rp2 : RepL cl Hs es ys) (rt : ∀ Hs' H, Same Hs Hs' → Same Hs' H → Same Bq H → H a = some (.lst xs)) (rt2 : ∀ Hs' H, Same Hs Hs' → Same Hs' H → Same Bq H → H b = some (.lst ys)) (hz : xs.length ≤ szL) : ItOk cl (Itz K a b) (zipD ds es) Hs Bq where
  len := by rw [zipD_len, ← rp.length]; omega
  go := fun Hs' H e1 e2 e3 i hi => by
    rw [zipD_len] at hi
    obtain ⟨v, e, _⟩ := rp.get (d := ds[i]'(by omega)) (i := i) (by simp)
    obtain ⟨v2, e', _⟩ := rp2.get (d := es[i]'(by omega)) (i := i) (by simp)
    exact ⟨xs, ys, v, v2, SqL.of (rt Hs' H e1 e2 e3), SqL.of (rt2 Hs' H e1 e2 e3), e, e'⟩
  stop := fun Hs' H e1 e2 e3 => ⟨xs, ys, SqL.of (rt Hs' H e1 e2 e3), SqL.of (rt2 Hs' H e1 e2 e3), by rw [zipD_len, rp.length, rp2.length]; omega⟩
  yld := fun Hs' H e1 e2 e3 i d x H' hd y => by
    obtain ⟨T, v, v2, rfl, hT, rfl, y1, y2⟩ := y
    obtain ⟨d0, e0, h1, h2, rfl⟩ := zipD_get hd
    obtain ⟨u, eu, ru⟩ := rp.get h1
    obtain ⟨u2, eu2, ru2⟩ := rp2.get h2
    have q := y1 xs (SqL.of (rt Hs' _ e1 e2 e3))
    have q2 := y2 ys (SqL.of (rt2 Hs' _ e1 e2 e3))
    rw [eu] at q
    cases q
    rw [eu2] at q2
    cases q2
    have gs := e1.trans (Same.updNew (o := .tup [v, v2]) (e2.free hT))
    exact ⟨_, Grow.new e2 hT, .tup upd_same (.cons (Rep.same gs _ _ ru) (.cons (Rep.same gs _ _ ru2) .nil))⟩
section
variable {X : Cx} {E : En} {ks : List Kd} {mb : Bool} {e e2 : Expr} {g g2 : Sl → R D} {p pos : Pos}
end
end VL
end

noncomputable section
namespace VL
open PySem PySem.Spec PyProof.Rows L2
variable {md : Md}

section
variable {X : Cx} {E : En} {fin : List Kd → Prop} {kr : Kd} {ks ks' : List Kd} {i j : Nat} {n : Option Addr} {kk : List (Str × Kd)} {C f x : Str} {e : Expr} {g : Sl → O} {p0 p1 p2 p3 pos : Pos}
end

section
variable {X : Cx} {E : En} {fin : List Kd → Prop} {kr : Kd} {ks ks' ks1 : List Kd} {e a b : Expr} {rest : List Expr} {g ga gb : Sl → O} {gv : Sl → R D} {pos : Pos}
theorem PostX.bool {W : WX} {σ : L2.St} {Q1 Q : VK} {o : O} {kk : Bool → Sl → O} (P : PostX E ks1 .val fin W σ Q (onX o fun d r' => match d with
      | .bl b => kk b r'
      | _ => .stuck)) (h : ∀ b r' Hs' H', StRel E Hs' H' ks1 r' σ → PostX E ks1 .val fin W σ Q (kk b r') → Q1 (.bl b) H') : PostX E ks1 .val fin W σ Q1 o := by
  cases o with
  | stuck => exact P.elim
  | nx r => exact P.elim
  | exc x r => exact P
  | rt d r =>
    cases d <;> first | exact P.elim | skip
    rename_i b
    intro v Hs' H' S1
    obtain ⟨w, A, ew, o⟩ := S1.get (i := 0) rfl rfl
    cases ew
    cases o with
    | val rp =>
      cases rp
      exact h b r Hs' H' S1.pop P
end
end VL
end

noncomputable section
namespace VL
open PySem PySem.Spec PyProof.Rows L2
variable {md : Md}

section
variable {X : Cx} {E : En} {ks : List Kd} {a b : Expr} {ga gb : Sl → R D} {p p2 q pos : Pos}
end
end VL
end

noncomputable section
namespace VL
open PySem PySem.Spec PyProof.Rows L2
variable {md : Md}

section
variable {X : Cx} {E : En} {ks : List Kd} {a : Expr} {ga : Sl → R D} {x : Str} {l : List (Str × Str)} {p pos : Pos}
end
end VL
end

noncomputable section
namespace VL
open PySem PySem.Spec PyProof.Rows L2
variable {md : Md}

section
variable {X : Cx} {E : En} {ks : List Kd} {a b c : Expr} {ta : TA} {p p2 q pos : Pos} {t : Sl → R (List D)}
end
end VL
end

noncomputable section
namespace VL
open PySem PySem.Spec PyProof.Rows L2
variable {md : Md}

section
variable {X : Cx} {E : En} {ks : List Kd} {e : Expr} {g : Sl → R D} {x : Str} {j : Nat} {kp pos : Pos}
end
end VL
end

noncomputable section
namespace VL
open PySem PySem.Spec PyProof.Rows L2
variable {md : Md}

inductive Src where
  | l (a : Addr)
  | t (x : Str)
def Src.it (h : Heap) (i1 : Addr) (i : Nat) : Src → Prop
  | .l a => h.IsListIter i1 a i
  | .t x => ∃ tk, h.IsStrIter i1 (strIterType x) x tk i
def Src.val : Src → V
  | .l a => .ref a
  | .t x => .str x
def Src.has (K : PySem.W.Frag) (H : Hp) (i : Nat) (v : V) : Src → Prop
  | .l a => ∃ xs, SqL K H a xs ∧ xs[i]? = some v
  | .t x => ∃ c, x.cps[i]? = some c ∧ v = .str ⟨#[c]⟩
def Src.len (K : PySem.W.Frag) (H : Hp) (n : Nat) : Src → Prop
  | .l a => ∃ xs : List V, SqL K H a xs ∧ xs.length = n
  | .t x => x.cps.size = n
def Src.fp (i1 : Addr) : Src → List Addr
  | .l a => [i1, a]
  | .t _ => [i1]
def Src.off (i1 : Addr) : Src → Prop
  | .l a => a ≠ i1
  | .t _ => True
section
variable {X : Cx} {pins : List (Addr × Obj)} {σ : L2.St} {H : Hp} {s : Shared}
end
/-- a source is at hand, and stays -/
structure SrcOk (K : PySem.W.Frag) (cl : Cl) (Hs Bq : Hp) (ds : List D) (r : Src) : Prop where
  sz : ds.length ≤ szL
  len : ∀ Hs' H, Same Hs Hs' → Same Hs' H → Same Bq H → r.len K H ds.length
  has : ∀ Hs' H, Same Hs Hs' → Same Hs' H → Same Bq H → ∀ i d, ds[i]? = some d → ∃ v, r.has K H i v ∧ Rep cl Hs' d v
theorem SrcOk.grow {K : PySem.W.Frag} {cl : Cl} {Hs Bq Hs2 Bq2 : Hp} {ds : List D} {r : Src} (S : SrcOk K cl Hs Bq ds r) (a : Same Hs Hs2) (b : Same Bq Bq2) : SrcOk K cl Hs2 Bq2 ds r :=
  ⟨S.sz, fun Hs' H e1 e2 e3 => S.len Hs' H (a.trans e1) e2 (b.trans e3), fun Hs' H e1 e2 e3 => S.has Hs' H (a.trans e1) e2 (b.trans e3)⟩
section
variable {X : Cx} {E : En} {ks : List Kd} {mb : Bool} {e e2 : Expr} {g g2 : Sl → R D} {p pos : Pos}
end
end VL
end

noncomputable section
namespace VL
open PySem PySem.Spec PyProof.Rows L2
variable {md : Md}

section
variable {X : Cx} {E : En} {ks : List Kd}
end
section
variable {X : Cx} {E : En} {ks : List Kd} {a : Expr} {ga : Sl → R D} {x : Str} {l : List (Str × Str)} {p pos : Pos}
end
end VL
end

noncomputable section
namespace VL
open PySem PySem.Spec PyProof.Rows L2
variable {md : Md}

section
variable {X : Cx} {E : En} {ks : List Kd} {i : Nat} {n : Option Addr} {k : Kd} {x : Str} {b : Expr} {gb : Sl → R D} {p pos : Pos}
end
structure El where
  ds : List D
  n : Int
  k : Nat
  d : D
inductive EV (H : Hp) : List El → List V → List V → Prop
  | nil : EV H [] [] []
  | cons {t : El} {T : List El} {a : Addr} {xs : List V} {u : V} {uf ue : List V} : H a = some (.lst xs) → xs.length = t.ds.length → xs[t.k]? = some u → EV H T uf ue → EV H (t :: T) (.ref a :: uf) (u :: ue)
theorem EV.inj {H : Hp} : ∀ {T : List El} {uf ue ue' : List V}, EV H T uf ue → EV H T uf ue' → ue = ue'
  | _, _, _, _, .nil, .nil => rfl
  | _, _, _, _, .cons a1 _ a3 a4, .cons b1 _ b3 b4 => by
    rw [a1] at b1
    cases b1
    rw [a3] at b3
    cases b3
    rw [EV.inj a4 b4]
theorem EV.grow {Hs H Hs' H' : Hp} (g : Grow Hs H Hs' H') : ∀ {T : List El} {uf ue : List V}, EV H T uf ue → EV H' T uf ue
  | _, _, _, .nil => .nil
  | _, _, _, .cons a1 a2 a3 a4 => .cons (g.h.at _ _ a1 (by intro _ z; cases z)) a2 a3 (EV.grow g a4)
section
variable {cl : Cl} {N : Addr → Prop} {B Hs H : Hp}
end
section
variable {X : Cx} {E : En} {ks : List Kd} {is : List (Nat × Nat)} {bs : List Bool} {es : List Expr} {t : Sl → R (List D)} {i j : Nat} {x y : Str} {p p2 pos pos2 : Pos}
end
section
variable {X : Cx} {E : En} {fin : List Kd → Prop} {kr : Kd} {ks ks' : List Kd} {is : List (Nat × Nat)} {kf ke : List Kd} {k n : Nat} {bs0 : Bool} {k1 k2 : List Kd} {bs : List Bool} {x : Str} {e : Expr} {es : List Expr} {f : List D → O} {t : Sl → R (List D)} {p pos : Pos}
end
end VL
end

noncomputable section
namespace VL
open PySem PySem.Spec PyProof.Rows L2
variable {md : Md}

section
variable {E : En} {Hs H : Hp} {ks : List Kd} {r : Sl} {σ : L2.St}
end
section
variable {X : Cx} {E : En} {fin : List Kd → Prop} {kr : Kd} {ks ks' : List Kd} {i : Nat} {n : Option Addr} {k : Kd} {x : Str} {e b : Expr} {gb gv : Sl → R D} {g : Sl → O} {p1 p2 p pos : Pos}
end
section
variable {X : Cx} {E : En} {fin : List Kd → Prop} {kr : Kd} {ks : List Kd} {i : Nat} {n : Option Addr} {x m C : Str} {b : Expr} {gb : Sl → R D} {f : List D → O} {k : Nat} {k1 : List (Str × Kd)} {p1 p2 apos pos : Pos}
end
section
variable {P : Program} {w : World} {K : PySem.W.Frag} {mg : Str → Option Value} {base : Heap} {cl : Cl} {x qual : Str} {st : Stmt} {fa : Addr} {fd : FuncData} {N ps : List Str} {k : Nat} {bs : List Bool} {kr : Kd} {k1 k2 ls : List Kd} {m : Sl → O}
end
section
variable {X : Cx} {E : En} {fin : List Kd → Prop} {ks ks' : List Kd} {a b : Expr} {rest : List Expr} {ga gb : Sl → O} {ta : Sl → R Bool} {pos : Pos}
end
end VL
end

noncomputable section
namespace VL
open PySem PySem.Spec PyProof.Rows L2
variable {md : Md}

theorem zl_no_len : typeLookup (.type "zip") "__len__" = pure none := am_miss_of_fast (by decide +kernel)
theorem zl_no_hint : typeLookup (.type "zip") "__length_hint__" = pure none := am_miss_of_fast (by decide +kernel)
/-- a zip at turn i; S: the list that is made -/
structure ZSt (h : Heap) (z TI TO i1 i2 l1 l2 S : Addr) (xs ys : Array Value) (i : Nat) : Prop where
  ti : IsPair h TI (.ref i1) (.ref i2)
  h1 : h.IsListIter i1 l1 i
  h2 : h.IsListIter i2 l2 i
  x : h.IsList l1 xs
  y : h.IsList l2 ys
  hz : (IsZip h z TI TO .none ∧ ∃ a b, IsPair h TO a b) ∨ ∃ T f oT, IsZipHeld h z TI TO T f ∧ h.get? T = some oT ∧ T ≠ z ∧ T ≠ i1 ∧ T ≠ i2 ∧ T ≠ S
structure ZOff (S z TI TO i1 i2 l1 l2 : Addr) : Prop where
  z : S ≠ z
  ti : S ≠ TI
  to : S ≠ TO
  a : S ≠ i1
  b : S ≠ i2
  x : S ≠ l1
  y : S ≠ l2
theorem ZSt.keep {h h' : Heap} {z TI TO i1 i2 l1 l2 S : Addr} {xs ys : Array Value} {i : Nat} (st : ZSt h z TI TO i1 i2 l1 l2 S xs ys i) (O : ZOff S z TI TO i1 i2 l1 l2) (hk : ∀ b o, b ≠ S → h.get? b = some o → h'.get? b = some o) : ZSt h' z TI TO i1 i2 l1 l2 S xs ys i := by
  obtain ⟨hTI, h1, h2, hl1, hl2, hz⟩ := st
  refine ⟨hk _ _ (Ne.symm O.ti) hTI, h1.at fun o e => hk _ o (Ne.symm O.a) e, h2.at fun o e => hk _ o (Ne.symm O.b) e, hl1.at fun o e => hk _ o (Ne.symm O.x) e, hl2.at fun o e => hk _ o (Ne.symm O.y) e, ?_⟩
  rcases hz with ⟨hz, a, b, hTO⟩ | ⟨T, f, oT, hz, hT, r1, r2, r3, r4⟩
  · exact .inl ⟨hk _ _ (Ne.symm O.z) hz, a, b, hk _ _ (Ne.symm O.to) hTO⟩
  · exact .inr ⟨T, f, oT, hk _ _ (Ne.symm O.z) hz, hk _ _ r4 hT, r1, r2, r3, r4⟩
section
variable {prog : Program} {w : World} {A : Around} {E : Value → Shared → Prop} {s : Shared} {z TI TO i1 i2 l1 l2 S : Addr} {xs ys : Array Value} {i : Nat}
theorem zl_item {x y : Value} {Q : Option Value → Shared → Prop} (D : ZipApart z TI TO i1 i2 l1 l2) (st : ZSt s.heap z TI TO i1 i2 l1 l2 S xs ys i) (hS : S < s.heap.objs.size) (ex : xs[i]? = some x) (ey : ys[i]? = some y)
    (hQ : ∀ h', ZSt h' z TI TO i1 i2 l1 l2 S xs ys (i + 1) → h'.get? s.heap.objs.size = some { cls := .type "tuple", data := .seq #[x, y] } → h'.objs.size = s.heap.objs.size + 1 →
      (∀ b o, b ≠ z → b ≠ TO → b ≠ i1 → b ≠ i2 → s.heap.get? b = some o → h'.get? b = some o) → Q (some (.ref s.heap.objs.size)) { s with heap := h' }) : wpAny (model prog w) A (pyNext (.ref z)) Q E s := by
  obtain ⟨hTI, h1, h2, hl1, hl2, hz⟩ := st
  have lt : ∀ {c o}, s.heap.get? c = some o → s.heap.objs.size ≠ c := fun e => Nat.ne_of_gt (Heap.lt_size e)
  have n1 : s.heap.objs.size ≠ i1 := let ⟨_, e, _⟩ := h1; lt e
  have n2 : s.heap.objs.size ≠ i2 := let ⟨_, e, _⟩ := h2; lt e
  rcases hz with ⟨hz, a, b, hTO⟩ | ⟨T, f, oT, hz, hT, r1, r2, r3, r4⟩
  · refine wpAny_pyNext_zip_item D hz hTI hTO h1 h2 hl1 hl2 ex ey fun h' a1 a2 a3 a4 a5 a6 hk => ?_
    exact hQ h' ⟨hk _ _ D.TIz D.TITO D.TIi1 D.TIi2 hTI, a3, a4, hl1.at fun o e => hk _ o D.l1z D.l1TO D.l1i1 D.l1i2 e, hl2.at fun o e => hk _ o D.l2z D.l2TO D.l2i1 D.l2i2 e,
      .inr ⟨s.heap.objs.size, false, _, a1, a5, lt hz, n1, n2, Nat.ne_of_gt hS⟩⟩ a5 a6 hk
  · refine wpAny_pyNext_zip_item_held D hz hT hTI h1 h2 hl1 hl2 ex ey fun h' a1 a3 a4 a5 a6 hk => ?_
    exact hQ h' ⟨hk _ _ D.TIz D.TIi1 D.TIi2 hTI, a3, a4, hl1.at fun o e => hk _ o D.l1z D.l1i1 D.l1i2 e, hl2.at fun o e => hk _ o D.l2z D.l2i1 D.l2i2 e,
      .inr ⟨T, true, oT, a1, hk _ _ r1 r2 r3 hT, r1, r2, r3, r4⟩⟩ a5 a6 fun b o c1 _ c3 c4 e => hk b o c1 c3 c4 e
theorem zl_done {Q : Option Value → Shared → Prop} (hh : A.handled = none) (D : ZipApart z TI TO i1 i2 l1 l2) (st : ZSt s.heap z TI TO i1 i2 l1 l2 S xs ys i) (he : xs[i]? = none ∨ ys[i]? = none)
    (hQ : ∀ h', (∀ b o, b ≠ z → b ≠ TO → b ≠ i1 → b ≠ i2 → s.heap.get? b = some o → h'.get? b = some o) → Q none { s with heap := h' }) : wpAny (model prog w) A (pyNext (.ref z)) Q E s := by
  obtain ⟨hTI, h1, h2, hl1, hl2, hz⟩ := st
  rcases hz with ⟨hz, a, b, hTO⟩ | ⟨T, f, oT, hz, hT, r1, r2, r3, r4⟩
  · exact wpAny_pyNext_zip_end hh D hz hTI hTO h1 h2 hl1 hl2 he fun h' hk => hQ h' hk
  · exact wpAny_pyNext_zip_end_held hh D hz hT hTI h1 h2 hl1 hl2 he fun h' hk => hQ h' fun b o c1 _ c3 c4 e => hk b o c1 c3 c4 e
end
/-- the tuples made -/
structure ZG (xs ys : Array Value) (lo : Addr) (h : Heap) (as : List Addr) : Prop where
  rise : as.Pairwise (· < ·)
  above : ∀ a ∈ as, lo ≤ a
  pairs : ∀ (j : Nat) (a : Addr), as[j]? = some a → ∃ x y, xs[j]? = some x ∧ ys[j]? = some y ∧ h.get? a = some { cls := .type "tuple", data := .seq #[x, y] }
theorem ZG.there {xs ys : Array Value} {lo : Addr} {h : Heap} {as : List Addr} (g : ZG xs ys lo h as) {a : Addr} (ha : a ∈ as) : a < h.objs.size := by
  obtain ⟨j, hj⟩ := List.mem_iff_getElem?.mp ha
  obtain ⟨_, _, _, _, e⟩ := g.pairs j a hj
  exact Heap.lt_size e
theorem ZG.low {xs ys : Array Value} {lo lo' : Addr} {h : Heap} {as : List Addr} (g : ZG xs ys lo h as) (hl : lo' ≤ lo) : ZG xs ys lo' h as := ⟨g.rise, fun a ha => Nat.le_trans hl (g.above a ha), g.pairs⟩
section
variable {prog : Program} {w : World} {A : Around} {s : Shared} {R : Result → Shared → Prop} {z TI TO i1 i2 l1 l2 S : Addr} {xs ys : Array Value}
theorem zl_loop (hh : A.handled = none) (D : ZipApart z TI TO i1 i2 l1 l2) (O : ZOff S z TI TO i1 i2 l1 l2) (lo : Addr) (hlo : ∀ b, b = S ∨ b = z ∨ b = TO ∨ b = i1 ∨ b = i2 → b < lo) (hn : min xs.size ys.size ≤ sizeLine) (res : Value) {h₁ : Heap}
    (hR : ∀ h' tk acc c as, (∀ b o, b ≠ S → b ≠ z → b ≠ TO → b ≠ i1 → b ≠ i2 → h₁.get? b = some o → h'.get? b = some o) → h'.get? S = some { cls := .type "list", dict := none, data := .seq acc c, slots := #[] } → as.length = min xs.size ys.size → ZG xs ys lo h' as →
      acc.toList = as.map Value.ref → R (.ok (.ret res)) { s with heap := h', toks := tk }) :
    ∀ (k i : Nat) (h : Heap) (tk c : Nat) (acc : Array Value) (as : List Addr), min xs.size ys.size - i = k → i ≤ min xs.size ys.size → ZSt h z TI TO i1 i2 l1 l2 S xs ys i → (∀ b o, b ≠ S → b ≠ z → b ≠ TO → b ≠ i1 → b ≠ i2 → h₁.get? b = some o → h.get? b = some o) →
      h.get? S = some { cls := .type "list", dict := none, data := .seq acc c, slots := #[] } → acc.toList = as.map Value.ref → as.length = i → ZG xs ys lo h as → lo ≤ h.objs.size →
      codeAny (model prog w) A (.builtin "list.extend.loop" ⟨[.ref S, .ref z, res], []⟩) R { s with heap := h, toks := tk } := by
  intro k
  induction k with
  | zero =>
    intro i h tk c acc as hk hi hst hkeep hS hacc hal hG hIs
    have hin : i = min xs.size ys.size := by omega
    have he : xs[i]? = none ∨ ys[i]? = none := by
      rcases Nat.le_total xs.size ys.size with q | q
      · exact .inl (Array.getElem?_eq_none (by omega))
      · exact .inr (Array.getElem?_eq_none (by omega))
    refine codeAny_builtin PySem.F.entry_extend_loop ?_
    rw [Around.under_plainId PySem.F.plain_extend_loop _]
    show wpAny _ A.in1 (pyNext (.ref z) >>= _) _ _ _
    refine wpAny_bind (zl_done (s := { s with heap := h, toks := tk }) (A := A.in1) hh D hst he fun h' hp => ?_)
    have hp' : ∀ b o, lo ≤ b → h.get? b = some o → h'.get? b = some o := fun b o hb e => hp b o (fun q => absurd (hlo b (by simp [q])) (Nat.not_lt.mpr hb)) (fun q => absurd (hlo b (by simp [q])) (Nat.not_lt.mpr hb)) (fun q => absurd (hlo b (by simp [q])) (Nat.not_lt.mpr hb)) (fun q => absurd (hlo b (by simp [q])) (Nat.not_lt.mpr hb)) e
    refine wpAny_pure (hR h' tk acc c as (fun b o c1 c2 c3 c4 c5 e => hp b o c2 c3 c4 c5 (hkeep b o c1 c2 c3 c4 c5 e)) (hp S _ O.z O.to O.a O.b hS) (by omega) ⟨hG.rise, hG.above, fun j a hj => ?_⟩ hacc)
    obtain ⟨x, y, e1, e2, e3⟩ := hG.pairs j a hj
    exact ⟨x, y, e1, e2, hp' a _ (hG.above a (List.mem_of_getElem? hj)) e3⟩
  | succ k ih =>
    intro i h tk c acc as hk hi hst hkeep hS hacc hal hG hIs
    have hlt : i < min xs.size ys.size := by omega
    have ex : xs[i]? = some (xs[i]'(by omega)) := Array.getElem?_eq_getElem (by omega)
    have ey : ys[i]? = some (ys[i]'(by omega)) := Array.getElem?_eq_getElem (by omega)
    have hsz : acc.size = i := by rw [← Array.length_toList, hacc, List.length_map, hal]
    refine codeAny_builtin PySem.F.entry_extend_loop ?_
    rw [Around.under_plainId PySem.F.plain_extend_loop _]
    show wpAny _ A.in1 (pyNext (.ref z) >>= _) _ _ _
    refine wpAny_bind (zl_item (s := { s with heap := h, toks := tk }) (S := S) D hst (Heap.lt_size hS) ex ey fun h' hst' ht hz hkp => ?_)
    dsimp only at ht hz hkp ⊢
    have hS' := hkp S _ O.z O.to O.a O.b hS
    have up : ∀ b o, b ≠ S → h'.get? b = some o → (h'.update S (Obj.mapSeq (·.push (Value.ref h.objs.size)))).get? b = some o := fun b o hb e => (Heap.get?_update_other _ _ (Ne.symm hb)).trans e
    have hSl : S < h.objs.size := Heap.lt_size hS
    have hp' : ∀ b o, lo ≤ b → h.get? b = some o → h'.get? b = some o := fun b o hb e => hkp b o (fun q => absurd (hlo b (by simp [q])) (Nat.not_lt.mpr hb)) (fun q => absurd (hlo b (by simp [q])) (Nat.not_lt.mpr hb)) (fun q => absurd (hlo b (by simp [q])) (Nat.not_lt.mpr hb)) (fun q => absurd (hlo b (by simp [q])) (Nat.not_lt.mpr hb)) e
    show wpAny _ A.in1 (updateSeq S (·.push (Value.ref h.objs.size)) >>= _) _ _ _
    refine wpAny_bind ?_
    refine wpAny_updateSeq hS' rfl (wpAny_pure ⟨plainId_quiet PySem.F.plain_extend_loop _, ih (i + 1) _ tk _ (acc.push (Value.ref h.objs.size)) (as ++ [h.objs.size]) (by omega) hlt (hst'.keep O up)
      (fun b o c1 c2 c3 c4 c5 e => up b o c1 (hkp b o c2 c3 c4 c5 (hkeep b o c1 c2 c3 c4 c5 e))) (Heap.get?_update_self _ hS' rfl) (by rw [Array.toList_push, hacc, List.map_append]; rfl) (by rw [List.length_append, hal]; rfl) ⟨?_, ?_, ?_⟩ ?_⟩) (by rw [hsz]; omega) (by show (acc.push (Value.ref h.objs.size)).size ≤ sizeLine + 1; rw [Array.size_push, hsz]; omega)
    · refine List.pairwise_append.mpr ⟨hG.rise, List.pairwise_singleton _ _, fun a ha b hb => ?_⟩
      rw [List.mem_singleton.mp hb]
      exact hG.there ha
    · intro a ha
      rcases List.mem_append.mp ha with ha | ha
      · exact hG.above a ha
      · rw [List.mem_singleton.mp ha]; exact hIs
    · intro j b hj
      rcases Nat.lt_trichotomy j as.length with h1 | h1 | h1
      · rw [List.getElem?_append_left h1] at hj
        obtain ⟨x', y', e1, e2, e3⟩ := hG.pairs j b hj
        have hb := hG.above b (List.mem_of_getElem? hj)
        have hSlo := hlo S (.inl rfl)
        exact ⟨x', y', e1, e2, up b _ (fun q => Nat.lt_irrefl S (Nat.lt_of_lt_of_le hSlo (q ▸ hb))) (hp' b _ hb e3)⟩
      · subst h1
        have hb : h.objs.size = b := by simpa using hj
        subst hb
        exact ⟨_, _, by rw [hal]; exact ex, by rw [hal]; exact ey, up _ _ (Nat.ne_of_gt hSl) ht⟩
      · have hnone : (as ++ [h.objs.size])[j]? = none := List.getElem?_eq_none (by rw [List.length_append, List.length_singleton]; omega)
        rw [hnone] at hj; cases hj
    · have e : (h'.update S (Obj.mapSeq (·.push (Value.ref h.objs.size)))).get? h.objs.size = _ := up _ _ (Nat.ne_of_gt hSl) ht
      exact Nat.le_trans hIs (Nat.le_of_lt (Heap.lt_size e))
end
section
variable {prog : Program} {w : World} {A : Around} {E : Value → Shared → Prop} {s : Shared} {z TI TO i1 i2 l1 l2 : Addr} {xs ys : Array Value}
/-- a zip as it is made -/
structure Z0 (h : Heap) (z TI TO i1 i2 l1 l2 : Addr) (xs ys : Array Value) : Prop where
  z : IsZip h z TI TO .none
  ti : IsPair h TI (.ref i1) (.ref i2)
  to : ∃ a b, IsPair h TO a b
  h1 : h.IsListIter i1 l1 0
  h2 : h.IsListIter i2 l2 0
  x : h.IsList l1 xs
  y : h.IsList l2 ys
theorem Z0.keep {S : Addr} {h h' : Heap} (st : Z0 h z TI TO i1 i2 l1 l2 xs ys) (O : ZOff S z TI TO i1 i2 l1 l2) (hk : ∀ b o, b ≠ S → h.get? b = some o → h'.get? b = some o) : Z0 h' z TI TO i1 i2 l1 l2 xs ys :=
  ⟨hk _ _ (Ne.symm O.z) st.z, hk _ _ (Ne.symm O.ti) st.ti, let ⟨a, b, e⟩ := st.to; ⟨a, b, hk _ _ (Ne.symm O.to) e⟩, st.h1.at fun o e => hk _ o (Ne.symm O.a) e, st.h2.at fun o e => hk _ o (Ne.symm O.b) e, st.x.at fun o e => hk _ o (Ne.symm O.x) e, st.y.at fun o e => hk _ o (Ne.symm O.y) e⟩
theorem Z0.st {S : Addr} {h : Heap} (st : Z0 h z TI TO i1 i2 l1 l2 xs ys) : ZSt h z TI TO i1 i2 l1 l2 S xs ys 0 := ⟨st.ti, st.h1, st.h2, st.x, st.y, .inl ⟨st.z, st.to⟩⟩
theorem zl_extend {R : Result → Shared → Prop} {S : Addr} (hh : A.handled = none) (D : ZipApart z TI TO i1 i2 l1 l2) (O : ZOff S z TI TO i1 i2 l1 l2) (lo : Addr) (hlo : ∀ b, b = S ∨ b = z ∨ b = TO ∨ b = i1 ∨ b = i2 → b < lo) (hls : lo ≤ s.heap.objs.size) (st : Z0 s.heap z TI TO i1 i2 l1 l2 xs ys) (res : Value) (c₀ : Nat) (hS : s.heap.get? S = some { cls := .type "list", data := .seq #[] c₀ })
    (hR : ∀ h' tk acc c as, (∀ b o, b ≠ S → b ≠ z → b ≠ TO → b ≠ i1 → b ≠ i2 → s.heap.get? b = some o → h'.get? b = some o) → h'.get? S = some { cls := .type "list", dict := none, data := .seq acc c, slots := #[] } → as.length = min xs.size ys.size → ZG xs ys lo h' as →
      acc.toList = as.map Value.ref → R (.ok (.ret res)) { s with heap := h', toks := tk }) (hn : min xs.size ys.size ≤ sizeLine) :
    wpAny (model prog w) A.in1 (Builtin.List.listExtendWith (.ref S) (.ref z) res)
      (fun fin s' => match fin with | .done f => R (.ok f) s' | .again c' => c'.quiet = true ∧ codeAny (model prog w) A c' R s') (fun e s' => R (.error e) s') s := by
  have hT : s.TypeIs (.ref z) "zip" := ⟨_, st.z, rfl⟩
  unfold Builtin.List.listExtendWith
  refine wpAny_bind (wpAny_typeOf hT ?_)
  have h1 : Builtin.List.listSameRef (.ref S) (.ref z) = false := by simp [Builtin.List.listSameRef, O.z]
  have h2 : (Value.type "zip" == Value.type "list") = false := by decide
  have h3 : (Value.type "zip" == Value.type "tuple") = false := by decide
  simp only [h1, h2, h3, Bool.or_false, Bool.false_eq_true, if_false]
  refine wpAny_bind (wpAny_pyIter_zip st.z ?_)
  refine wpAny_bind (wpAny_holding ?_)
  unfold Builtin.List.listLengthHint
  refine wpAny_bind (wpAny_specialOf hT zl_no_len ?_)
  show wpAny _ A.in1 (specialOf (Value.ref z) (Str.ofString "__length_hint__") >>= _) _ _ _
  refine wpAny_bind (wpAny_specialOf hT zl_no_hint ?_)
  refine wpAny_pure ?_
  show wpAny _ A.in1 (rule "list.extend.makes-room" >>= fun _ => Builtin.List.listTouch (.ref S) >>= fun _ =>
    again (.builtin "list.extend.loop" ⟨[.ref S, .ref z, res], []⟩)) _ _ _
  refine wpAny_bind (wpAny_rule ?_)
  refine wpAny_bind ?_
  show wpAny _ A.in1 (updateSeq S (·.push .none) >>= fun _ => updateSeq S (·.pop)) _ _ _
  refine wpAny_bind (wpAny_updateSeq hS rfl ?_)
  have hS₂ := Heap.get?_update_self (Obj.mapSeq (·.push Value.none)) hS rfl
  refine wpAny_updateSeq (hz := by seq_fits) hS₂ rfl ?_
  have hS₃ := Heap.get?_update_self (Obj.mapSeq (·.pop)) hS₂ rfl
  have oth : ∀ b o, b ≠ S → s.heap.get? b = some o → ((s.heap.update S (Obj.mapSeq (·.push Value.none))).update S (Obj.mapSeq (·.pop))).get? b = some o :=
    fun b o hb e => (Heap.get?_update_other _ _ (Ne.symm hb)).trans ((Heap.get?_update_other _ _ (Ne.symm hb)).trans e)
  refine wpAny_pure ⟨plainId_quiet PySem.F.plain_extend_loop _, ?_⟩
  refine zl_loop (s := s) (h₁ := s.heap) hh D O lo hlo hn res (fun h' tk acc c as hk hS' hl hG hacc => hR h' tk acc c as hk hS' hl hG hacc) _ 0 _ _ _ #[] [] rfl (Nat.zero_le _) (st.st.keep O oth) (fun b o c1 _ _ _ _ e => oth b o c1 e) hS₃ rfl rfl
    ⟨List.Pairwise.nil, (fun _ ha => nomatch ha), (fun j a hj => by simp at hj)⟩ ?_
  show lo ≤ _
  refine Nat.le_trans hls (Nat.le_of_eq ?_)
  rw [Heap.size_update, Heap.size_update]
theorem zl_init {R : Result → Shared → Prop} {S : Addr} (hh : A.handled = none) (D : ZipApart z TI TO i1 i2 l1 l2) (O : ZOff S z TI TO i1 i2 l1 l2) (lo : Addr) (hlo : ∀ b, b = S ∨ b = z ∨ b = TO ∨ b = i1 ∨ b = i2 → b < lo) (hls : lo ≤ s.heap.objs.size) (st : Z0 s.heap z TI TO i1 i2 l1 l2 xs ys) (hS : s.heap.get? S = some { cls := .type "list", data := .seq #[] })
    (hR : ∀ h' tk acc c as, (∀ b o, b ≠ S → b ≠ z → b ≠ TO → b ≠ i1 → b ≠ i2 → s.heap.get? b = some o → h'.get? b = some o) → h'.get? S = some { cls := .type "list", dict := none, data := .seq acc c, slots := #[] } → as.length = min xs.size ys.size → ZG xs ys lo h' as →
      acc.toList = as.map Value.ref → R (.ok (.ret .none)) { s with heap := h', toks := tk }) (hn : min xs.size ys.size ≤ sizeLine) :
    wpAny (model prog w) A.in1 (Builtin.«list.__init__» ⟨[.ref S, .ref z], []⟩)
      (fun fin s' => match fin with | .done f => R (.ok f) s' | .again c' => c'.quiet = true ∧ codeAny (model prog w) A c' R s') (fun e s' => R (.error e) s') s := by
  show wpAny _ _ (do let old ← Builtin.List.listItems (.ref S); Builtin.List.listUpdate (.ref S) (fun _ => #[]); letGo old.toList.reverse; Builtin.List.listExtendWith (.ref S) (.ref z) .none) _ _ s
  refine wpAny_bind ?_
  unfold Builtin.List.listItems
  refine wpAny_bind (wpAny_seqItems hS rfl (wpAny_pure ?_))
  show wpAny _ _ (updateSeq S (fun _ => #[]) >>= fun _ => letGo (#[] : Array Value).toList.reverse >>= fun _ => Builtin.List.listExtendWith (.ref S) (.ref z) .none) _ _ s
  refine wpAny_bind (wpAny_updateSeq hS rfl ?_)
  have hS₂ := Heap.get?_update_self (Obj.mapSeq (fun _ => (#[] : Array Value))) hS rfl
  have oth : ∀ b o, b ≠ S → s.heap.get? b = some o → (s.heap.update S (Obj.mapSeq (fun _ => (#[] : Array Value)))).get? b = some o :=
    fun b o hb e => (Heap.get?_update_other _ _ (Ne.symm hb)).trans e
  refine wpAny_bind (wpAny_letGo ?_)
  refine zl_extend hh D O lo hlo (by show lo ≤ _; rw [Heap.size_update]; exact hls) (st.keep O oth) .none _ hS₂ (fun h' tk acc c as hk hS' hl hG hacc => ?_) hn
  exact hR h' tk acc c as (fun b o c1 c2 c3 c4 c5 e => hk b o c1 c2 c3 c4 c5 (oth b o c1 e)) hS' hl hG hacc
theorem zl_call {Q : Value → Shared → Prop} (hh : A.handled = none) (D : ZipApart z TI TO i1 i2 l1 l2) (st : Z0 s.heap z TI TO i1 i2 l1 l2 xs ys) (hn : min xs.size ys.size ≤ sizeLine)
    (hQ : ∀ h' tk acc c as, (∀ b o, b ≠ z → b ≠ TO → b ≠ i1 → b ≠ i2 → s.heap.get? b = some o → h'.get? b = some o) → h'.get? s.heap.objs.size = some { cls := .type "list", dict := none, data := .seq acc c, slots := #[] } → as.length = min xs.size ys.size → ZG xs ys (s.heap.objs.size + 1) h' as →
      acc.toList = as.map Value.ref → Q (.ref s.heap.objs.size) { s with heap := h', toks := tk }) :
    wpAny (model prog w) A (call (.type "list") [.ref z]) Q E s := by
  have lt : ∀ {c o}, s.heap.get? c = some o → s.heap.objs.size ≠ c := fun e => Nat.ne_of_gt (Heap.lt_size e)
  obtain ⟨a0, b0, eTO⟩ := st.to
  have O : ZOff s.heap.objs.size z TI TO i1 i2 l1 l2 := ⟨lt st.z, lt st.ti, lt eTO, (let ⟨_, e, _⟩ := st.h1; lt e), (let ⟨_, e, _⟩ := st.h2; lt e), (let ⟨_, e, _⟩ := st.x; lt e), (let ⟨_, e, _⟩ := st.y; lt e)⟩
  have hlo : ∀ b, b = s.heap.objs.size ∨ b = z ∨ b = TO ∨ b = i1 ∨ b = i2 → b < s.heap.objs.size + 1 := fun b hb => by
    rcases hb with q | q | q | q | q
    · rw [q]; exact Nat.lt_succ_self _
    · rw [q]; exact Nat.lt_succ_of_lt (Heap.lt_size st.z)
    · rw [q]; exact Nat.lt_succ_of_lt (Heap.lt_size eTO)
    · rw [q]; exact Nat.lt_succ_of_lt (let ⟨_, e, _⟩ := st.h1; Heap.lt_size e)
    · rw [q]; exact Nat.lt_succ_of_lt (let ⟨_, e, _⟩ := st.h2; Heap.lt_size e)
  refine callType_codes (Q₁ := fun obj s₁ => obj = .ref s.heap.objs.size ∧ s₁ = { s with heap := s.heap.push { cls := .type "list", data := .seq #[] } }) PySem.F.called_list (PySem.F.typeCall_list_1 _) PySem.F.entry_list_init
    (code_list_new _ ⟨rfl, rfl⟩) fun obj s₁ h₁ => ?_
  obtain ⟨rfl, rfl⟩ := h₁
  have hS : (s.heap.push { cls := .type "list", data := .seq #[] }).get? s.heap.objs.size = some { cls := .type "list", data := .seq #[] } := Heap.get?_push_size _ rfl
  refine ⟨⟨_, hS, rfl⟩, PySem.F.args_list_init_2 _ _, zl_init (A := A.in1) hh D O (s.heap.objs.size + 1) hlo (by show _ ≤ (s.heap.push _).objs.size; rw [Heap.size_push]; exact Nat.le_refl _) (st.keep O fun b o _ e => Heap.get?_push_of_some _ e) hS (fun h' tk acc c as hk hS' hl hG hacc => ?_) hn⟩
  exact ⟨rfl, hQ h' tk acc c as (fun b o c2 c3 c4 c5 e => hk b o (Ne.symm (lt e)) c2 c3 c4 c5 (Heap.get?_push_of_some _ e)) hS' hl hG hacc⟩
end
def putP : Hp → List Addr → List (V × V) → Hp
  | H, a :: as, p :: kvs => putP (upd H a (.tup [p.1, p.2])) as kvs
  | H, _, _ => H
theorem putP_off {b : Addr} : ∀ (as : List Addr) (kvs : List (V × V)) (H : Hp), b ∉ as → putP H as kvs b = H b
  | [], _, _, _ => rfl
  | _ :: _, [], _, _ => rfl
  | a :: as, p :: kvs, H, h => by
    show putP (upd H a (.tup [p.1, p.2])) as kvs b = H b
    rw [putP_off as kvs _ (fun z => h (List.mem_cons_of_mem _ z)), upd_ne (fun z => h (by rw [z]; exact List.mem_cons_self))]
theorem putP_at : ∀ (as : List Addr) (kvs : List (V × V)) (H : Hp), as.length = kvs.length → as.Nodup → ∀ (j : Nat) (a : Addr), as[j]? = some a → ∃ p, kvs[j]? = some p ∧ putP H as kvs a = some (.tup [p.1, p.2])
  | [], _, _, _, _, j, a, h => by simp at h
  | _ :: _, [], _, h, _, _, _, _ => by cases h
  | a :: as, p :: kvs, H, h, hn, 0, b, hb => by
    have hn' := List.nodup_cons.mp hn
    have e : a = b := by simpa using hb
    subst e
    refine ⟨p, rfl, ?_⟩
    show putP (upd H a (.tup [p.1, p.2])) as kvs a = some (.tup [p.1, p.2])
    rw [putP_off as kvs _ hn'.1, upd_same]
  | a :: as, p :: kvs, H, h, hn, j + 1, b, hb => by
    have hn' := List.nodup_cons.mp hn
    obtain ⟨q, e1, e2⟩ := putP_at as kvs (upd H a (.tup [p.1, p.2])) (Nat.succ.inj h) hn'.2 j b (by simpa using hb)
    exact ⟨q, by simpa using e1, e2⟩
def tListZip (K : PySem.W.Frag) (ta : TA) : TE := fun σ H Q => ta σ H fun vs H1 => ∃ (a b : Addr) (xs ys : List V), vs = [.ref a, .ref b] ∧ SqL K H1 a xs ∧ SqL K H1 b ys ∧
  ∀ (H' : Hp) (p : Addr) (ts : List Addr), (∀ b o, H1 b = some o → H' b = some o) → (∀ b, H1 b = none → b ∉ p :: ts → H' b = none) → H1 p = none → (∀ t ∈ ts, H1 t = none) → p ∉ ts → H' p = some (.lst (ts.map V.ref)) → ts.length = (xs.zip ys).length → (∀ (j : Nat) (t : Addr), ts[j]? = some t → ∃ q, (xs.zip ys)[j]? = some q ∧ H' t = some (.tup [q.1, q.2])) → Q (.ref p) H'
theorem pe_listZip {X : Cx} {e e2 : Expr} {ta : TA} {p p2 q pos : Pos} (hc : X.calm = true) (hg : Gl X "list") (hm : X.mg "list" = none) (hg2 : Gl X "zip") (hm2 : X.mg "zip" = none) (ha : PA X [e, e2] ta)
    (hs : starEach [e, e2] X.env = (false, eval e X.env) :: starEach [e2] X.env) (hpl : (backTo q (starEach [e2] X.env)).any (·.1) = false)
    (na : starEach [.Call (.Name "zip" p2) [e, e2] [] q] X.env = (false, eval (.Call (.Name "zip" p2) [e, e2] [] q) X.env) :: starEach [] X.env) :
    PE X (.Call (.Name "list" p) [.Call (.Name "zip" p2) [e, e2] [] q] [] pos) (tListZip X.K ta) := by
  refine ⟨fun pins s σ H Q I h => ?_⟩
  refine Call_ (ld_blt I hg hm boot_list (PyProof.Rows.callWith_type1 (args_cons ?_ na) na))
  refine Call_ (ld_blt I hg2 hm2 PyProof.Rows.boot_zip (PyProof.Rows.callWith_type1 (thn (ha.run q pins s σ H _ I h) fun us s1 ⟨vs, H1, I1, r1, q1⟩ => ?_) hs hpl))
  obtain ⟨a, b, xs, ys, ex, hqx, hqy, q1⟩ := q1
  subst ex
  cases r1 with
  | cons r rr =>
    cases rr with
    | cons r' rr =>
      cases rr
      cases r
      cases r'
      obtain ⟨its, rv, p1, hz1⟩ := I1.list hqx
      obtain ⟨its2, rv2, p2', hz2⟩ := I1.list hqy
      refine call_zip_2 p1.isList p2'.isList fun h' hz hTI hTO h1 h2 hsz hk => ?_
      refine args_nil ?_
      have I2 : Inv X pins σ H1 { s1 with heap := h' } := I1.kept (t' := s1.toks) hk
      have Dp := PySem.W.ktu_apart s1.heap.objs.size a b p1.lt p2'.lt
      have st : Z0 h' (s1.heap.objs.size + 4) (s1.heap.objs.size + 2) (s1.heap.objs.size + 3) s1.heap.objs.size (s1.heap.objs.size + 1) a b its.toArray its2.toArray := ⟨hz, hTI, ⟨_, _, hTO⟩, h1, h2, p1.isList.at fun o e => hk _ o e, p2'.isList.at fun o e => hk _ o e⟩
      have ln1 := rv.length
      have ln2 := rv2.length
      refine zl_call (s := { s1 with heap := h' }) (I2.ok.hd hc) Dp st (by simp; omega) fun h2' tk acc c as hk2 hS hl hG hacc => ?_
      dsimp only at hS hl hG hacc hk2 ⊢
      have lz : as.length = (xs.zip ys).length := by rw [hl, List.length_zip]; simp; omega
      have nd : as.Nodup := List.Pairwise.imp (fun {a b} (h : a < b) => Nat.ne_of_lt h) hG.rise
      have big : ∀ t ∈ as, s1.heap.objs.size + 5 < t := fun t ht => by
        have := hG.above t ht
        rw [hsz] at this
        exact this
      have newS : H1 h'.objs.size = none := I1.hok.fresh (by rw [hsz]; omega)
      have new : ∀ t ∈ as, H1 t = none := fun t ht => I1.hok.fresh (by have := big t ht; omega)
      have hSn : h'.objs.size ∉ as := fun z => by
        have := big _ z
        rw [hsz] at this
        exact Nat.lt_irrefl _ this
      have atP := putP_at as (xs.zip ys) (upd H1 h'.objs.size (.lst (as.map V.ref))) lz nd
      have off : ∀ b, b ∉ as → b ≠ h'.objs.size → putP (upd H1 h'.objs.size (.lst (as.map V.ref))) as (xs.zip ys) b = H1 b := fun b c1 c2 => by rw [putP_off as _ _ c1, upd_ne c2]
      have kp : ∀ b u, H1 b = some u → (putP (upd H1 h'.objs.size (.lst (as.map V.ref))) as (xs.zip ys)) b = some u := fun b u e => by
        rw [off b (fun z => by rw [new b z] at e; cases e) (fun z => by rw [z, newS] at e; cases e)]
        exact e
      have eS : putP (upd H1 h'.objs.size (.lst (as.map V.ref))) as (xs.zip ys) h'.objs.size = some (.lst (as.map V.ref)) := by rw [putP_off as _ _ hSn, upd_same]
      have low : ∀ b o, s1.heap.get? b = some o → b ∉ as ∧ b ≠ h'.objs.size := fun b o e => by
        have l2 : b < s1.heap.objs.size := Heap.lt_size e
        refine ⟨fun z => Nat.lt_irrefl b (Nat.lt_trans (Nat.lt_of_lt_of_le l2 (Nat.le_add_right _ 5)) (big b z)), fun z => ?_⟩
        rw [z, hsz] at l2
        exact absurd l2 (Nat.not_lt.mpr (Nat.le_add_right _ 5))
      have hk3 : ∀ b o, s1.heap.get? b = some o → h2'.get? b = some o := fun b o e => by
        have l2 : b < s1.heap.objs.size := Heap.lt_size e
        have ne : ∀ k, b ≠ s1.heap.objs.size + k := fun k => Nat.ne_of_lt (Nat.lt_of_lt_of_le l2 (Nat.le_add_right _ k))
        exact hk2 b o (ne 4) (ne 3) (ne 0) (ne 1) (hk b o e)
      refine ⟨.ref h'.objs.size, _, ?_, rfl, q1 (putP (upd H1 h'.objs.size (.lst (as.map V.ref))) as (xs.zip ys)) _ as kp (fun b e hb => ?_) newS new hSn eS lz atP⟩
      · refine I1.call' (ch := []) rfl ⟨fun b o q _ _ _ => hk3 b o q, fun b o q _ _ _ => ⟨o.slots, hk3 b o q⟩, fun b o q n _ => ?_, fun b o q _ => ⟨o, hk3 b o q⟩, fun b xs q => kp b _ q, fun b o u q => kp b _ q, fun b ps q => ⟨#[], by rw [kp b _ q]; simp⟩⟩ (fun b u q => ?_) I1.bare fun b z => by simp at z
        · obtain ⟨z1, z2⟩ := low b o q
          rw [off b z1 z2]
          exact n
        · by_cases hb : b ∈ as
          · obtain ⟨j, hj⟩ := List.mem_iff_getElem?.mp hb
            obtain ⟨⟨x, y⟩, e1, e2⟩ := atP j b hj
            rw [e2] at q
            cases q
            obtain ⟨u1, u2, f1, f2, f3⟩ := hG.pairs j b hj
            obtain ⟨g1, g2⟩ := List.getElem?_zip_eq_some.mp e1
            obtain ⟨w1, k1, r1⟩ := rv.get g1
            obtain ⟨w2, k2, r2⟩ := rv2.get g2
            have e3 : w1 = u1 := by
              have : its[j]? = some u1 := by simpa using f1
              rw [k1] at this
              exact Option.some.inj this
            have e4 : w2 = u2 := by
              have : its2[j]? = some u2 := by simpa using f2
              rw [k2] at this
              exact Option.some.inj this
            subst e3
            subst e4
            exact ⟨by show 2 ≤ sizeLine; decide, [w1, w2], .cons r1 (.cons r2 .nil), ⟨_, f3, rfl, _, rfl⟩⟩
          · by_cases hb2 : b = h'.objs.size
            · rw [hb2] at q ⊢
              rw [eS] at q
              cases q
              refine ⟨by rw [List.length_map, lz, List.length_zip]; omega, acc.toList, c, by rw [hacc]; exact LiI.vals_refs as, ?_⟩
              rw [Array.toArray_toList]
              exact hS
            · rw [off b hb hb2] at q
              exact (I1.hok b u q).stay (fun d v _ y => hk3 d v y) (fun d y => kp d _ y) fun d xs y => kp d _ y
      · rw [off b (fun z => hb (List.mem_cons_of_mem _ z)) (fun z => hb (by rw [z]; exact List.mem_cons_self))]
        exact e
def dListZip : D → D → R D
  | .lst ds, .lst es => .ok (.lst (zipD ds es))
  | _, _ => .stuck
theorem RepL.mk {cl : Cl} {H : Hp} : ∀ {ds : List D} {vs : List V}, ds.length = vs.length → (∀ (j : Nat) (d : D) (v : V), ds[j]? = some d → vs[j]? = some v → Rep cl H d v) → RepL cl H ds vs
  | [], [], _, _ => .nil
  | [], _ :: _, h, _ => by cases h
  | _ :: _, [], h, _ => by cases h
  | d :: ds, v :: vs, h, f => .cons (f 0 d v rfl rfl) (RepL.mk (Nat.succ.inj h) fun j d v e1 e2 => f (j + 1) d v (by simpa using e1) (by simpa using e2))
theorem se_listZip {X : Cx} {E : En} {ks : List Kd} {a b : Expr} {ga gb : Sl → R D} {p p2 q pos : Pos} (B : Bl X.mg) (hz : X.mg "zip" = none) (ha : SE X E ks .bor a ga) (hb : SE X E ks .bor b gb) (hc : X.calm = true := by rfl) (hg : Gl X "list" := by rfl) (hg2 : Gl X "zip" := by rfl)
    (na : starEach [a, b] X.env = (false, eval a X.env) :: starEach [b] X.env := by rfl) (nb : starEach [b] X.env = (false, eval b X.env) :: starEach [] X.env := by rfl) (hp : (backTo q (starEach [b] X.env)).any (·.1) = false := by rfl)
    (ne : starEach [.Call (.Name "zip" p2) [a, b] [] q] X.env = (false, eval (.Call (.Name "zip" p2) [a, b] [] q) X.env) :: starEach [] X.env := by rfl) :
    SE X E ks (.own none) (.Call (.Name "list" p) [.Call (.Name "zip" p2) [a, b] [] q] [] pos) (gBin dListZip ga gb) := by
  refine ⟨fun Hs H r σ W Q tk S P => ?_⟩
  refine we_of (pe_listZip hc hg B.list hg2 hz (pa_cons pe_we (pa_cons pe_we pa_nil nb) na) na hp ne) ?_
  refine ha.run _ _ _ _ _ _ tk S (P.imp fun d1 v1 Hs1 H1 e1 g1 k1 P1 => ?_)
  refine hb.run _ _ _ _ _ _ tk (S.grow g1) (P1.imp fun d2 v2 Hs2 H2 e2 g2 k2 P2 => ?_)
  cases d1 <;> cases d2 <;> first | exact P2.elim | skip
  rename_i ds es
  obtain ⟨a, xs, ea, h1, r1⟩ := (k1.rb.grow g2).lstInv g2.sub
  obtain ⟨b, ys, eb, h2, r2⟩ := k2.rb.lstInv g2.sub
  refine ⟨a, b, xs, ys, by rw [ea, eb], SqL.of h1, SqL.of h2, fun H' p ts kp of np nt pn hl hlen hat => ?_⟩
  have P3 : Post _ _ _ _ _ _ (R.ok (D.lst (zipD ds es))) := P2
  have fr : ∀ t ∈ ts, Hs2 t = none := fun t ht => g2.sub.free (nt t ht)
  have sH : Same H2 H' := ⟨fun b o q _ => kp b o q⟩
  have s1 : Same Hs2 (fun b => if b ∈ ts then H' b else Hs2 b) := ⟨fun b o q _ => by
    have nb : b ∉ ts := fun z => by rw [fr b z] at q; cases q
    show (if b ∈ ts then H' b else Hs2 b) = some o
    rw [if_neg nb]
    exact q⟩
  have gr : Grow Hs2 H2 (fun b => if b ∈ ts then H' b else Hs2 b) H' := ⟨s1, sH, fun b z => by
    by_cases hb : b ∈ ts
    · exact .inr (nt b hb)
    · left
      have z : (if b ∈ ts then H' b else Hs2 b) ≠ none := z
      rw [if_neg hb] at z
      exact z, ⟨fun b o q nt' => by
      have q : (if b ∈ ts then H' b else Hs2 b) = some o := q
      by_cases hb : b ∈ ts
      · rw [if_pos hb] at q
        exact q
      · rw [if_neg hb] at q
        refine kp b o (g2.sub.k b o q ?_)
        rcases nt' with w | w
        · exact .inl w
        · right
          cases w2 : H2 b with
          | none => rfl
          | some o2 => rw [kp b o2 w2] at w; cases w⟩, fun P z => z.ext fun b u q => kp b u q⟩
  refine P3 (.ref p) _ H' gr ⟨[p], .ownL ⟨np, fun _ z => by cases z⟩ hl (RepL.mk ?_ fun j d v e1 e2 => ?_), List.nodup_cons.mpr ⟨fun z => (nomatch z), List.nodup_nil⟩, fun b hb => ?_⟩
  · rw [zipD_len, List.length_map, hlen, List.length_zip, r1.length, r2.length]
  · obtain ⟨d0, e0, f1, f2, rfl⟩ := zipD_get e1
    rw [List.getElem?_map] at e2
    cases qt : ts[j]? with
    | none => rw [qt] at e2; cases e2
    | some t =>
      rw [qt] at e2
      cases e2
      obtain ⟨⟨x, y⟩, g3, g4⟩ := hat j t qt
      obtain ⟨g5, g6⟩ := List.getElem?_zip_eq_some.mp g3
      obtain ⟨x', w1, w2⟩ := r1.get f1
      obtain ⟨y', w3, w4⟩ := r2.get f2
      rw [g5] at w1
      cases w1
      rw [g6] at w3
      cases w3
      have tm : t ∈ ts := List.mem_of_getElem? qt
      refine .tup (xs := [x, y]) ?_ (.cons (Rep.same s1 _ _ w2) (.cons (Rep.same s1 _ _ w4) .nil))
      show (if t ∈ ts then H' t else Hs2 t) = _
      rw [if_pos tm]
      exact g4
  · rw [List.mem_singleton.mp hb]
    refine ⟨?_, np⟩
    show (if p ∈ ts then H' p else Hs2 p) = none
    rw [if_neg pn]
    exact g2.sub.free np
end VL
end

noncomputable section
namespace VL
open PySem PySem.Spec PyProof.Rows L2
variable {md : Md}

section
variable {X : Cx} {E : En} {ks : List Kd} {k : Kd} {e : Expr} {es : List Expr} {g : Sl → R D} {t : Sl → R (List D)} {pos : Pos}
/-- what is plain may stand for something told -/
@[simp] def gPlain (g : Sl → R D) : Sl → R D := fun r => match g r with
  | .ok d => if d.plain then .ok d else .stuck
  | .exc x => .exc x
  | .stuck => .stuck
theorem se_plainO (h : SE X E ks .val e g) : SE X E ks (.own none) e (gPlain g) := by
  refine ⟨fun Hs H r σ W Q tk S P => ?_⟩
  refine h.run Hs H r σ W Q tk S ?_
  unfold gPlain at P
  cases q : g r with
  | stuck => rw [q] at P; exact P
  | exc x => rw [q] at P; exact P
  | ok d =>
    rw [q] at P
    dsimp only at P
    intro v Hs' H' g1 k1
    split at P
    · rename_i pl
      exact P v Hs' H' g1 (RK.ownPlain pl k1.rep)
    · exact P.elim
@[simp] def gBare (g : Sl → R D) : Sl → R D := fun r => match g r with
  | .ok d => if d.bare then .ok d else .stuck
  | .exc x => .exc x
  | .stuck => .stuck
theorem se_plainL (h : SE X E ks .val e g) : SE X E ks (.lls none k) e (gBare g) := by
  refine ⟨fun Hs H r σ W Q tk S P => ?_⟩
  refine h.run Hs H r σ W Q tk S ?_
  unfold gBare at P
  cases q : g r with
  | stuck => rw [q] at P; exact P
  | exc x => rw [q] at P; exact P
  | ok d =>
    rw [q] at P
    dsimp only at P
    intro v Hs' H' g1 k1
    split at P
    · rename_i pl
      exact P v Hs' H' g1 ⟨[], .llV pl k1.rep, List.nodup_nil, fun a ha => nomatch ha⟩
    · exact P.elim
theorem se_llsT {l : Nat} (h : SLO X E ks k es t) (fk : k.fine = true := by rfl) : SE X E ks (.lls none k) (.Tuple es l pos) (gTup t) := by
  refine ⟨fun Hs H r σ W Q tk S P => ?_⟩
  refine we_of (pe_tup pa_wa) ?_
  refine h.run _ _ _ _ _ _ tk S ?_
  unfold gTup at P
  cases q : t r with
  | stuck => rw [q] at P; exact P
  | exc x => rw [q] at P; exact P
  | ok ds =>
    rw [q] at P
    intro vs Hs1 H1 g1 a1
    by_cases hz : ds.length ≤ szL
    · have P1 : Post E.cl (.lls none k) Hs H Q (fun c dd H' => W c dd σ H') (.ok (.tup ds)) := by
        have e : ((R.ok ds >>= fun ds => if ds.length ≤ szL then R.ok (D.tup ds) else .stuck) : R D) = .ok (.tup ds) := if_pos hz
        rw [← e]; exact P
      obtain ⟨As, os, nds, zs⟩ := a1
      refine ⟨by rw [szL_eq, os.length]; exact hz, fun p hp => ?_⟩
      have g2 := Grow.fresh (o := .tup vs) g1.sub hp
      have ne : ∀ a ∈ As, a ≠ p := fun a ha w => by
        obtain ⟨u, hu, _⟩ := os.here a ha
        rw [w, hp] at hu
        cases hu
      refine P1 (.ref p) Hs1 _ (g1.trans g2) ⟨p :: As, .llT ⟨g1.h.free hp, fun _ z => nomatch z⟩ upd_same ((OLs.keep (Same.refl _) (fun a ha => upd_ne (ne a ha)) os).anyB fk), List.nodup_cons.mpr ⟨fun w => ne p w rfl, nds⟩, fun a ha => ?_⟩
      rcases List.mem_cons.mp ha with w | w
      · rw [w]; exact ⟨g1.sub.free hp, g1.h.free hp⟩
      · exact zs a w
    · have e : ((R.ok ds >>= fun ds => if ds.length ≤ szL then R.ok (D.tup ds) else .stuck) : R D) = .stuck := if_neg hz
      have P2 : Post E.cl (.lls none k) Hs H Q (fun c dd H' => W c dd σ H') ((R.ok ds >>= fun ds => if ds.length ≤ szL then R.ok (D.tup ds) else .stuck) : R D) := P
      rw [e] at P2
      exact P2.elim
end
section
variable {X : Cx} {E : En} {Hs H : Hp} {ks : List Kd} {r : Sl} {σ : L2.St} {i : Nat} {k : Kd}
/-- item j of an own list of own lists is changed where it lies -/
theorem StRel.tmut {n m : Option Addr} {ds : List D} (S : StRel E Hs H ks r σ) (hk : ks[i]? = some (.lls n (.own m))) (hd : r[i]? = some (some (.tup ds))) :
    ∃ a xs, σ[i]? = some (some (.ref a)) ∧ H a = some (.tup xs) ∧ xs.length = ds.length ∧ ∀ j es, ds[j]? = some (.lst es) → ∃ b ys, xs[j]? = some (.ref b) ∧ a ≠ b ∧ H b = some (.lst ys) ∧ RepL E.cl Hs es ys ∧
      ∀ es' ys', RepL E.cl Hs es' ys' → StRel E Hs (upd H b (.lst ys')) ks (r.set i (some (.tup (ds.set j (.lst es'))))) σ := by
  obtain ⟨u, Af, eu, o, nd, dz, sub, back⟩ := S.chg hk hd rfl
  cases o with
  | llV h0 h1 => cases h0
  | llT h0 h1 h2 =>
    rename_i a xs As
    refine ⟨a, xs, eu, h1, h2.length, fun j es he => ?_⟩
    obtain ⟨pre, A, post, v1, e1, e3, e4, e5⟩ := OLs.pos j h2 he
    cases e4 with
    | ownV q0 q1 => cases q0
    | ownL q0 q1 q2 =>
      rename_i b ys
      subst e1
      have nc := List.nodup_cons.mp nd
      have nb : a ≠ b := fun w => nc.1 (by rw [w]; simp)
      have hin : b ∈ a :: (pre ++ ([b] ++ post)) := by simp
      refine ⟨b, ys, e3, nb, q1, q2, fun es' ys' rp => ?_⟩
      have np : ∀ x ∈ pre ++ post, x ≠ b := fun x hx w => by
        have q := List.nodup_append.mp nc.2
        rcases List.mem_append.mp hx with z | z
        · exact q.2.2 x z b (by simp) w
        · have q' := List.nodup_append.mp q.2.1
          exact q'.2.2 b (by simp) x z w.symm
      have of' := e5 Hs (upd H b (.lst ys')) (Same.refl _) (fun x hx => upd_ne (np x hx)) (.lst es') (.ref b) [b] (.ownL q0 upd_same rp)
      rw [set_self e3] at of'
      have z := back Hs (upd H b (.lst ys')) (.lls n (.own m)) (.tup (ds.set j (.lst es'))) (a :: (pre ++ ([b] ++ post))) rfl (Grow.inside sub hin dz) (.llT h0 ((upd_ne nb).trans h1) of') nd fun x hx => ⟨dz x hx, sans_in hx⟩
      rw [set_self hk] at z
      exact z
end
section
variable {X : Cx} {E : En} {kr : Kd} {fin : List Kd → Prop} {ks : List Kd} {i j : Nat} {n m : Option Addr} {x y : Str} {e : Expr} {g : Sl → R D} {pos p1 p2 p3 p4 p5 p6 : Pos}
/-- x[c].append(e), c a written number -/
@[simp] def mEltAppT (i c : Nat) (g : Sl → R D) : Sl → O := fun r => match r[i]? with
  | some (some (.tup ds)) => (match ds[c]? with
    | some (.lst es) => onR (g r) r fun d => if es.length < szL then .nx (r.set i (some (.tup (ds.set c (.lst (es ++ [d])))))) else .stuck
    | _ => .stuck)
  | _ => .stuck
theorem ss_eltAppT {c l : Nat} (he : SE X E ks .val e g) (hq : NmOk x) (hf : fin ks := by trivial) (hk : ks[i]? = some (.lls n (.own m)) := by rfl) (hN : X.N[i]? = some x := by rfl) (hv : Vis X.env.scope x := by first | exact Or.inl rfl | exact Or.inr (Or.inl rfl) | exact Or.inr (Or.inr rfl))
    (hs : swapsWith (.Call (.Attribute (.Subscript (.Name x p1) (.Constant (.int (c : Nat)) l p4) p5) "append" p2) [e] [] p3) none pos.line X.env = pure false := by rfl)
    (hbase : attributeBase (.Subscript (.Name x p1) (.Constant (.int (c : Nat)) l p4) p5) "append" X.env (eval (.Subscript (.Name x p1) (.Constant (.int (c : Nat)) l p4) p5) X.env) = eval (.Subscript (.Name x p1) (.Constant (.int (c : Nat)) l p4) p5) X.env := by rfl)
    (hfew : ((backTo p3 (starEach [e] X.env)).all (fun x => !x.1) && (backToKw p3 (keywordEach [] X.env)).all (fun x => x.1.isSome)
      && decide ([e].length + ([] : List Keyword).length + (if ([] : List Keyword).isEmpty then 0 else 1) < 30)) = true := by rfl)
    (hline : (p2.endLine == p3.line) = true := by rfl) (hst : starEach [e] X.env = (false, eval e X.env) :: starEach [] X.env := by rfl) (hplain : (backTo p3 (starEach [] X.env)).any (·.1) = false := by rfl) :
    SS X E kr fin ks (.Expr (.Call (.Attribute (.Subscript (.Name x p1) (.Constant (.int (c : Nat)) l p4) p5) "append" p2) [e] [] p3) pos) (mEltAppT i c g) ks := by
  refine ⟨fun Hs H r σ W Dn tk S P => ?_⟩
  refine ws_of (ps_expr (pe_bm PySem.F.plainAttrs_list PySem.F.slot_list_append PySem.F.type_list_append mt_append (pe_ix ix_tup (pe_var hN hv hq.1 hq.2) pe_int (fun _ _ => rfl)) (pa_cons pe_we pa_nil hst) hbase hfew hline hst hplain) hs) ?_
  unfold mEltAppT at P
  split at P
  · rename_i ds q
    obtain ⟨a, xs, ea, h1, hl, k1⟩ := S.tmut hk q
    split at P
    · rename_i es qe
      obtain ⟨b, ys, e1, nb, h2, r1, _⟩ := k1 c es qe
      refine ⟨.ref a, ea, a, xs, (c : Int), .ref b, rfl, rfl, SqT.of h1, atI_nat e1, tyV_lst h2, ?_⟩
      refine he.run _ _ _ _ _ _ tk S (Post.ofS hf S P fun d v Hs' H' _ g1 kk P1 => ?_)
      obtain ⟨a', xs', ea', h1', hl', k1'⟩ := (S.grow g1).tmut hk q
      rw [ea] at ea'
      cases ea'
      have z := g1.h.at _ _ h1
      rw [h1'] at z
      cases z
      obtain ⟨b', ys', e1', nb', h2', r1', up⟩ := k1' c es qe
      rw [e1] at e1'
      cases e1'
      split at P1
      · rename_i hz
        exact ⟨b, ys', v, rfl, rfl, h2', by rw [szL_eq, r1'.length]; exact hz, P1 _ _ _ (up _ _ (r1'.app (.cons kk.rep .nil)))⟩
      · exact P1.elim
    · exact P.elim
  · exact P.elim
end
end VL
end

noncomputable section
namespace CW
open PySem PySem.Spec PyProof.Rows L2 VL
def b_look_row_1 : Sl → O := (mSeq (mIf (gTest (gBin dLe (gBin dIdx (gVar 0) (gVar 1)) (gBin dIdx (gVar 0) (gBin dSub (gVar 1) (gC (.int 1))))))
  (mSeq (mRaiseAt "BadRow" (gVar 1))
  mNil)
  mNil)
  mNil)
def m_look_row : Sl → O := (mSeq (mIf (gTest (gBin dGt (gCall fLen (gCons (gVar 0) gNil)) (gC (.int 60))))
  (mSeq (mRaise "TooMany")
  mNil)
  mNil)
  (mSeq (mFor (gRange2 (gC (.int 1)) (gCall fLen (gCons (gVar 0) gNil))) (.one 1) b_look_row_1)
  mNil))
def f_look_row : List D → R D := runF m_look_row 1

def m_look_creel : Sl → O := (mSeq (mIf (gTest (gBin dLt (gVar 0) (gC (.int 1))))
  (mSeq (mRaise "BadCreel")
  mNil)
  mNil)
  mNil)
def f_look_creel : List D → R D := runF m_look_creel 0

def m_share : Sl → O := (mSeq (mRet (gCall fSum (gCons (gComp (gIter (gVar 0)) (.tup [2, 3]) [2, 3] gYes (gCall fMin2 (gCons (gVar 1) (gCons (gVar 2) gNil)))) gNil)))
  mNil)
def f_share : List D → R D := runF m_share 2

def m_mark : Sl → O := (mSeq (mRet (gBin dSub (gVar 2) (gBin dMul (gC (.int 2)) (gCall f_share (gCons (gVar 0) (gCons (gVar 1) gNil))))))
  mNil)
def f_mark : List D → R D := runF m_mark 0

def b_longest_ripe_1 : Sl → O := (mSeq (mIf (gAnd (gTest (gBin dGt (gVar 3) (gVar 2))) (gTest (gBin dEq (gVar 4) (gCall f_mark (gCons (gVar 0) (gCons (gVar 3) (gCons (gVar 1) gNil)))))))
  (mSeq (mSet 2 (gVar 3))
  mNil)
  mNil)
  mNil)
def m_longest_ripe : Sl → O := (mSeq (mSet 2 (gC (.int 0)))
  (mSeq (mFor (gIter (gVar 0)) (.tup [3, 4]) b_longest_ripe_1)
  (mSeq (mRet (gVar 2))
  mNil)))
def f_longest_ripe : List D → R D := runF m_longest_ripe 3

def m_grown : Sl → O := (mSeq (mSet 2 (gCall f_longest_ripe (gCons (gVar 0) (gCons (gBin dSub (gVar 1) (gC (.int 1))) gNil))))
  (mSeq (mSet 3 (gCall fList (gCons (gVar 0) gNil)))
  (mSeq (mIf (gTest (gBin dGt (gVar 2) (gC (.int 0))))
  (mSeq (mRem 3 (gTup (gCons (gVar 2) (gCons (gCall f_mark (gCons (gVar 0) (gCons (gVar 2) (gCons (gBin dSub (gVar 1) (gC (.int 1))) gNil)))) gNil))))
  mNil)
  mNil)
  (mSeq (mSet 4 (gBin dAdd (gBin dAdd (gCall f_share (gCons (gVar 3) (gCons (gBin dAdd (gVar 2) (gC (.int 1))) gNil))) (gVar 2)) (gC (.int 1))))
  (mSeq (mApp 3 (gTup (gCons (gBin dAdd (gVar 2) (gC (.int 1))) (gCons (gBin dSub (gVar 1) (gBin dMul (gC (.int 2)) (gVar 4))) gNil))))
  (mSeq (mRetV 3)
  mNil))))))
def f_grown : List D → R D := runF m_grown 3

def b_list_of_1 : Sl → O := (mSeq (mSet 1 (gCall f_grown (gCons (gVar 1) (gCons (gVar 2) gNil))))
  mNil)
def m_list_of : Sl → O := (mSeq (mSet 1 (gLst gNil))
  (mSeq (mFor (gIter (gVar 0)) (.one 2) b_list_of_1)
  (mSeq (mRet (gCall fSorted (gCons (gVar 1) gNil)))
  mNil)))
def f_list_of : List D → R D := runF m_list_of 2

def m_trains : Sl → O := (mSeq (mExpr (gCall f_look_row (gCons (gVar 0) gNil)))
  (mSeq (mRet (gCall f_list_of (gCons (gVar 0) gNil)))
  mNil))
def f_trains : List D → R D := runF m_trains 0

def m_next_place : Sl → O := (mSeq (mRet (gCall fMax1 (gCons (gComp (gIter (gVar 0)) (.tup [1, 2]) [1, 2] gYes (gBin dAdd (gVar 2) (gBin dMul (gC (.int 2)) (gCall f_share (gCons (gVar 0) (gCons (gVar 1) gNil)))))) gNil)))
  mNil)
def f_next_place : List D → R D := runF m_next_place 2

def m_shortest_ripe : Sl → O := (mSeq (mRet (gCall fMin1 (gCons (gComp (gIter (gVar 0)) (.tup [2, 3]) [2, 3] (gTest (gBin dEq (gVar 3) (gCall f_mark (gCons (gVar 0) (gCons (gVar 2) (gCons (gVar 1) gNil)))))) (gVar 2)) gNil)))
  mNil)
def f_shortest_ripe : List D → R D := runF m_shortest_ripe 2

def m_shrunk : Sl → O := (mSeq (mSet 2 (gCall f_shortest_ripe (gCons (gVar 0) (gCons (gVar 1) gNil))))
  (mSeq (mSet 3 (gCall fList (gCons (gVar 0) gNil)))
  (mSeq (mRem 3 (gTup (gCons (gVar 2) (gCons (gCall f_mark (gCons (gVar 0) (gCons (gVar 2) (gCons (gVar 1) gNil)))) gNil))))
  (mSeq (mIf (gTest (gBin dGt (gVar 2) (gC (.int 1))))
  (mSeq (mSet 4 (gBin dSub (gBin dAdd (gCall f_share (gCons (gVar 3) (gCons (gBin dSub (gVar 2) (gC (.int 1))) gNil))) (gVar 2)) (gC (.int 1))))
  (mSeq (mApp 3 (gTup (gCons (gBin dSub (gVar 2) (gC (.int 1))) (gCons (gBin dSub (gBin dSub (gVar 1) (gC (.int 1))) (gBin dMul (gC (.int 2)) (gVar 4))) gNil))))
  mNil))
  mNil)
  (mSeq (mRetV 3)
  mNil)))))
def f_shrunk : List D → R D := runF m_shrunk 3

def b_stones_of_1 : Sl → O := (mSeq (mSet 2 (gCall f_next_place (gCons (gVar 0) gNil)))
  (mSeq (mApp 1 (gVar 2))
  (mSeq (mSet 0 (gCall f_shrunk (gCons (gVar 0) (gCons (gVar 2) gNil))))
  mNil)))
def m_stones_of : Sl → O := (mSeq (mSet 1 (gLst gNil))
  (mSeq (whileL (gTest (gBin dNe (gVar 0) (gLst gNil))) b_stones_of_1 WB)
  (mSeq (mRet (gUn dRev (gVar 1)))
  mNil)))
def f_stones_of : List D → R D := runF m_stones_of 2

def b_look_walks_1 : Sl → O := (mSeq (mExpr (gCall f_look_creel (gCons (gVar 1) gNil)))
  mNil)
def m_look_walks : Sl → O := (mSeq (mFor (gIter (gVar 0)) (.tup [1, 2]) b_look_walks_1)
  mNil)
def f_look_walks : List D → R D := runF m_look_walks 2

def m_by_walks : Sl → O := (mSeq (mRet (gCall fSum (gCons (gComp (gIter (gVar 0)) (.tup [2, 3]) [2, 3] gYes (gBin dMul (gVar 3) (gCall fMin2 (gCons (gVar 2) (gCons (gVar 1) gNil))))) gNil)))
  mNil)
def f_by_walks : List D → R D := runF m_by_walks 2

def m_added_to : Sl → O := (mSeq (mRet (gCall fSorted (gCons (gComp (gIter (gVar 0)) (.tup [2, 3]) [2, 3] gYes (gTup (gCons (gVar 2) (gCons (gBin dAdd (gVar 3) (gCall f_by_walks (gCons (gVar 1) (gCons (gVar 2) gNil)))) gNil)))) gNil)))
  mNil)
def f_added_to : List D → R D := runF m_added_to 2

def m_far : Sl → O := (mSeq (mExpr (gCall f_look_row (gCons (gVar 0) gNil)))
  (mSeq (mExpr (gCall f_look_walks (gCons (gVar 1) gNil)))
  (mSeq (mRet (gCall f_stones_of (gCons (gCall f_added_to (gCons (gCall f_list_of (gCons (gVar 0) gNil)) (gCons (gVar 1) gNil))) gNil)))
  mNil)))
def f_far : List D → R D := runF m_far 0

def m_offsets_of : Sl → O := (mSeq (mRet (gComp (gIter (gVar 0)) (.tup [2, 3]) [2, 3] (gTest (gBin dEq (gVar 2) (gVar 1))) (gVar 3)))
  mNil)
def f_offsets_of : List D → R D := runF m_offsets_of 2

def b_bar_of_1 : Sl → O := (mSeq (mIf (gTest (gBin dNe (gCall fLen (gCons (gCall f_offsets_of (gCons (gVar 0) (gCons (gVar 3) gNil))) gNil)) (gCall fLen (gCons (gCall f_offsets_of (gCons (gVar 1) (gCons (gVar 3) gNil))) gNil))))
  (mSeq (mRet (gTup (gCons (gPlain (gC (.str "sizes"))) (gCons (gPlain (gVar 3)) gNil))))
  mNil)
  mNil)
  mNil)
def b_bar_of_2 : Sl → O := (mSeq (mSet 5 (gBin dListZip (gCall f_offsets_of (gCons (gVar 0) (gCons (gVar 3) gNil))) (gCall f_offsets_of (gCons (gVar 1) (gCons (gVar 3) gNil)))))
  (mSeq (mIf (gTest (gBin dGt (gUn dLenSet (gComp (gIter (gVar 5)) (.tup [6, 7]) [6, 7] gYes (gBin dSub (gVar 7) (gVar 6)))) (gC (.int 1))))
  (mSeq (mRet (gTup (gCons (gPlain (gC (.str "apart"))) (gCons (gPlain (gVar 3)) gNil))))
  mNil)
  mNil)
  mNil))
def m_bar_of : Sl → O := (mSeq (mSet 2 (gUn dSet (gComp (gIter (gBin dAdd (gVar 0) (gVar 1))) (.tup [3, 4]) [3, 4] gYes (gVar 3))))
  (mSeq (mFor (gIter (gVar 2)) (.one 3) b_bar_of_1)
  (mSeq (mFor (gIter (gVar 2)) (.one 3) b_bar_of_2)
  (mSeq (mRet (gBare (gC .non)))
  mNil))))
def f_bar_of : List D → R D := runFO m_bar_of 6

def b_steps_by_size_1 : Sl → O := (mSeq (mSet 5 (gBin dSub (gBin dIdx (gCall f_offsets_of (gCons (gVar 1) (gCons (gVar 3) gNil))) (gC (.int 0))) (gBin dIdx (gCall f_offsets_of (gCons (gVar 0) (gCons (gVar 3) gNil))) (gC (.int 0)))))
  (mSeq (mExt 2 (gBin dMul (gLst (gCons (gVar 5) gNil)) (gBin dSub (gBin dAdd (gVar 3) (gC (.int 1))) (gCall fLen (gCons (gVar 2) gNil)))))
  mNil))
def m_steps_by_size : Sl → O := (mSeq (mSet 2 (gLst (gCons (gC (.int 0)) gNil)))
  (mSeq (mFor (gIter (gUn dSet (gComp (gIter (gVar 0)) (.tup [3, 4]) [3, 4] gYes (gVar 3)))) (.one 3) b_steps_by_size_1)
  (mSeq (mRet (gBin dAdd (gVar 2) (gLst (gCons (gBin dIdx (gVar 2) (gUn dNeg (gC (.int 1)))) gNil))))
  mNil)))
def f_steps_by_size : List D → R D := runF m_steps_by_size 4

def b_walks_by_1 : Sl → O := (mSeq (mSet 3 (gBin dSub (gBin dSub (gBin dMul (gC (.int 2)) (gBin dIdx (gVar 0) (gVar 2))) (gBin dIdx (gVar 0) (gBin dSub (gVar 2) (gC (.int 1))))) (gBin dIdx (gVar 0) (gBin dAdd (gVar 2) (gC (.int 1))))))
  (mSeq (mIf (gTest (gBin dNe (gVar 3) (gC (.int 0))))
  (mSeq (mApp 1 (gTup (gCons (gVar 2) (gCons (gVar 3) gNil))))
  mNil)
  mNil)
  mNil))
def m_walks_by : Sl → O := (mSeq (mSet 1 (gLst gNil))
  (mSeq (mFor (gRange2 (gC (.int 1)) (gBin dSub (gCall fLen (gCons (gVar 0) gNil)) (gC (.int 1)))) (.one 2) b_walks_by_1)
  (mSeq (mRetV 1)
  mNil)))
def f_walks_by : List D → R D := runF m_walks_by 3

def m_kin : Sl → O := (mSeq (mExpr (gCall f_look_row (gCons (gVar 0) gNil)))
  (mSeq (mExpr (gCall f_look_row (gCons (gVar 1) gNil)))
  (mSeq (mSet 2 (gCall f_list_of (gCons (gVar 0) gNil)))
  (mSeq (mSet 3 (gCall f_list_of (gCons (gVar 1) gNil)))
  (mSeq (mSet 4 (gCall f_bar_of (gCons (gVar 2) (gCons (gVar 3) gNil))))
  (mSeq (mIf (gScalT (gTest (gUn dNotN (gVar 4))))
  (mSeq (mRetV 4)
  mNil)
  mNil)
  (mSeq (mRet (gTup (gCons (gPlain (gC (.str "walks"))) (gCons (gCall f_walks_by (gCons (gCall f_steps_by_size (gCons (gVar 2) (gCons (gVar 3) gNil))) gNil)) gNil))))
  mNil)))))))
def f_kin : List D → R D := runFO m_kin 3

def b_numbers_L_1 : Sl → O := (mSeq (mIf (gTest (gBin dGt (gVar 5) (gC (.int 0))))
  (mSeq (mApp 2 (gBin dMod (gVar 5) (gC (.int 1013))))
  (mSeq (mSet 5 (gBin dFdiv (gVar 5) (gC (.int 1013))))
  mNil))
  mNil)
  mNil)
def b_numbers_L_2 : Sl → O := (mSeq (mSet 3 (gBin dMod (gBin dAdd (gBin dAdd (gBin dMul (gVar 3) (gC (.int 40014))) (gBin dMod (gVar 4) (gC (.int 999983)))) (gC (.int 29))) (gC (.int 2147483563))))
  (mSeq (mSet 5 (gBin dSub (gVar 4) (gBin dPow (gC (.int 10)) (gC (.int 18)))))
  (mSeq (mIf (gTest (gBin dLt (gVar 5) (gC (.int 0))))
  (mSeq (mApp 2 (gBin dMod (gVar 4) (gC (.int 9967))))
  mNil)
  mNil)
  (mSeq (mFor (gRange1 (gC (.int 60))) (.one 6) b_numbers_L_1)
  mNil))))
def b_numbers_L_3 : Sl → O := (mSeq (mSet 3 (gBin dMod (gBin dAdd (gBin dAdd (gBin dAdd (gBin dMul (gVar 3) (gVar 3)) (gBin dMul (gC (.int 52774)) (gVar 3))) (gBin dMul (gC (.int 13)) (gCall fLen (gCons (gVar 2) gNil)))) (gC (.int 7))) (gC (.int 2147483629))))
  (mSeq (mApp 2 (gBin dMod (gBin dFdiv (gVar 3) (gC (.int 1019))) (gC (.int 9967))))
  mNil))
def m_numbers_L : Sl → O := (mSeq (mSet 2 (gLst gNil))
  (mSeq (mSet 3 (gC (.int 59)))
  (mSeq (mFor (gIter (gSlS (gVar 0) gNoPart (gPart (gC (.int 63))))) (.one 4) b_numbers_L_2)
  (mSeq (whileL (gTest (gBin dLt (gCall fLen (gCons (gVar 2) gNil)) (gVar 1))) b_numbers_L_3 WB)
  (mSeq (mRet (gSl (gVar 2) gNoPart (gPart (gVar 1))))
  mNil)))))
def f_numbers_L : List D → R D := runF m_numbers_L 5

def m_same_L (fs : List D → R D) : Sl → O := (mSeq (mIf (gTest (gUn dIsN (gVar 1)))
  (mSeq (mRet (gUn dIsN (gVar 0)))
  mNil)
  mNil)
  (mSeq (mIf (gTest (gUn dIsLT (gVar 1)))
  (mSeq (mIf (gOr (gTest (gBin dNe (gUn (dIs .list) (gVar 0)) (gUn (dIs .list) (gVar 1)))) (gTest (gBin dNe (gUn (dIs .tuple) (gVar 0)) (gUn (dIs .tuple) (gVar 1)))))
  (mSeq (mRet (gC (.bl false)))
  mNil)
  mNil)
  (mSeq (mRet (vAnd (gBin dEq (gCall fLen (gCons (gVar 0) gNil)) (gCall fLen (gCons (gVar 1) gNil))) (gCall fAll (gCons (gComp (gRange1 (gCall fLen (gCons (gVar 1) gNil))) (.one 2) [2] gYes (gCall fs (gCons (gBin dIdx (gVar 0) (gVar 2)) (gCons (gBin dIdx (gVar 1) (gVar 2)) gNil)))) gNil))))
  mNil))
  mNil)
  (mSeq (mIf (gOr (gTest (gBin dNe (gUn (dIs .bool) (gVar 0)) (gUn (dIs .bool) (gVar 1)))) (gTest (gBin dNe (gUn (dIs .str) (gVar 0)) (gUn (dIs .str) (gVar 1)))))
  (mSeq (mRet (gC (.bl false)))
  mNil)
  mNil)
  (mSeq (mRet (vAnd (gBin dEq (gUn (dIs .int) (gVar 0)) (gUn (dIs .int) (gVar 1))) (gBin dEq (gVar 0) (gVar 1))))
  mNil))))
def f_same_L : Nat → List D → R D
  | 0 => fun _ => .stuck
  | n + 1 => runF (m_same_L (f_same_L n)) 1

def b_row_L_1 : Sl → O := (mSeq (mSet 5 (gBin dIdx (gVar 0) (gBin dAdd (gC (.int 3)) (gVar 4))))
  (mSeq (mSet 2 (gBin dAdd (gBin dAdd (gVar 2) (gC (.int 1))) (gIf (gTest (gBin dEq (gBin dMod (gVar 5) (gC (.int 3))) (gC (.int 0)))) (gC (.int 0)) (gBin dMod (gBin dFdiv (gVar 5) (gC (.int 3))) (gBin dIdx (gLst (gCons (gC (.int 2)) (gCons (gC (.int 3)) (gCons (gC (.int 5)) (gCons (gC (.int 12)) gNil))))) (gBin dMod (gBin dIdx (gVar 0) (gC (.int 2))) (gC (.int 4))))))))
  (mSeq (mApp 3 (gVar 2))
  mNil)))
def m_row_L : Sl → O := (mSeq (mSet 2 (gBin dSub (gBin dMod (gBin dIdx (gVar 0) (gC (.int 0))) (gC (.int 31))) (gC (.int 15))))
  (mSeq (mSet 3 (gLst gNil))
  (mSeq (mFor (gRange1 (gBin dMod (gBin dIdx (gVar 0) (gC (.int 1))) (gBin dAdd (gVar 1) (gC (.int 1))))) (.one 4) b_row_L_1)
  (mSeq (mRetV 3)
  mNil))))
def f_row_L : List D → R D := runF m_row_L 4

def m_long_row_L : Sl → O := (mSeq (mSet 2 (gCall f_row_L (gCons (gVar 0) (gCons (gVar 1) gNil))))
  (mSeq (mSet 3 (gBin dMod (gBin dFdiv (gBin dIdx (gVar 0) (gC (.int 2))) (gC (.int 4))) (gBin dAdd (gCall fLen (gCons (gVar 2) gNil)) (gC (.int 1)))))
  (mSeq (mSet 4 (gBin dIdx (gLst (gCons (gC (.int 0)) (gCons (gBin dPow (gC (.int 10)) (gC (.int 3))) (gCons (gBin dPow (gC (.int 10)) (gC (.int 12))) (gCons (gBin dPow (gC (.int 10)) (gC (.int 40))) gNil))))) (gBin dMod (gBin dFdiv (gBin dIdx (gVar 0) (gC (.int 2))) (gC (.int 64))) (gC (.int 4)))))
  (mSeq (mRet (gBin dAdd (gSl (gVar 2) gNoPart (gPart (gVar 3))) (gComp (gIter (gSl (gVar 2) (gPart (gVar 3)) gNoPart)) (.one 5) [5] gYes (gBin dAdd (gVar 5) (gVar 4)))))
  mNil))))
def f_long_row_L : List D → R D := runF m_long_row_L 4

def m_lesser_L : Sl → O := (mSeq (mRet (gCall fSum (gCons (gComp (gIter (gVar 0)) (.tup [2, 3]) [2, 3] gYes (gCall fMin2 (gCons (gVar 1) (gCons (gVar 2) gNil)))) gNil)))
  mNil)
def f_lesser_L : List D → R D := runF m_lesser_L 2

def b_list_L_1 : Sl → O := (mSeq (mSet 3 (gComp (gIter (gVar 1)) (.tup [4, 5]) [4, 5] (gTest (gBin dEq (gVar 5) (gBin dSub (gBin dSub (gVar 2) (gC (.int 1))) (gBin dMul (gC (.int 2)) (gCall f_lesser_L (gCons (gVar 1) (gCons (gVar 4) gNil))))))) (gVar 4)))
  (mSeq (mSet 4 (gBin fMaxD (gVar 3) (gC (.int 0))))
  (mSeq (mIf (gTest (gBin dGt (gVar 4) (gC (.int 0))))
  (mSeq (mRem 1 (gTup (gCons (gVar 4) (gCons (gBin dSub (gBin dSub (gVar 2) (gC (.int 1))) (gBin dMul (gC (.int 2)) (gCall f_lesser_L (gCons (gVar 1) (gCons (gVar 4) gNil))))) gNil))))
  mNil)
  mNil)
  (mSeq (mApp 1 (gTup (gCons (gBin dAdd (gVar 4) (gC (.int 1))) (gCons (gC (.int 0)) gNil))))
  (mSeq (mSetI 1 (gUn dNeg (gC (.int 1))) (gTup (gCons (gBin dAdd (gVar 4) (gC (.int 1))) (gCons (gBin dSub (gVar 2) (gBin dMul (gC (.int 2)) (gCall f_lesser_L (gCons (gVar 1) (gCons (gBin dAdd (gVar 4) (gC (.int 1))) gNil))))) gNil))))
  mNil)))))
def m_list_L : Sl → O := (mSeq (mSet 1 (gLst gNil))
  (mSeq (mFor (gIter (gVar 0)) (.one 2) b_list_L_1)
  (mSeq (mRet (gCall fSorted (gCons (gVar 1) gNil)))
  mNil)))
def f_list_L : List D → R D := runF m_list_L 5

def b_stones_L_1 : Sl → O := (mSeq (mSet 3 (gCall fMax1 (gCons (gComp (gIter (gVar 1)) (.tup [4, 5]) [4, 5] gYes (gBin dAdd (gVar 5) (gBin dMul (gC (.int 2)) (gCall f_lesser_L (gCons (gVar 1) (gCons (gVar 4) gNil)))))) gNil)))
  (mSeq (mSet 4 (gCall fMin1 (gCons (gComp (gIter (gVar 1)) (.tup [6, 5]) [6, 5] (gTest (gBin dEq (gBin dAdd (gVar 5) (gBin dMul (gC (.int 2)) (gCall f_lesser_L (gCons (gVar 1) (gCons (gVar 6) gNil))))) (gVar 3))) (gVar 6)) gNil)))
  (mSeq (mRem 1 (gTup (gCons (gVar 4) (gCons (gBin dSub (gVar 3) (gBin dMul (gC (.int 2)) (gCall f_lesser_L (gCons (gVar 1) (gCons (gVar 4) gNil))))) gNil))))
  (mSeq (mIf (gTest (gBin dGt (gVar 4) (gC (.int 1))))
  (mSeq (mApp 1 (gTup (gCons (gBin dSub (gVar 4) (gC (.int 1))) (gCons (gC (.int 0)) gNil))))
  (mSeq (mSetI 1 (gUn dNeg (gC (.int 1))) (gTup (gCons (gBin dSub (gVar 4) (gC (.int 1))) (gCons (gBin dSub (gBin dSub (gVar 3) (gC (.int 1))) (gBin dMul (gC (.int 2)) (gCall f_lesser_L (gCons (gVar 1) (gCons (gBin dSub (gVar 4) (gC (.int 1))) gNil))))) gNil))))
  mNil))
  mNil)
  (mSeq (mApp 2 (gVar 3))
  mNil)))))
def m_stones_L : Sl → O := (mSeq (mSet 1 (gCall fList (gCons (gVar 0) gNil)))
  (mSeq (mSet 2 (gLst gNil))
  (mSeq (whileL (gTest (gBin dNe (gVar 1) (gLst gNil))) b_stones_L_1 WB)
  (mSeq (mRet (gUn dRev (gVar 2)))
  mNil))))
def f_stones_L : List D → R D := runF m_stones_L 6

def b_walks_L_1 : Sl → O := (mSeq (mSet 4 (gBin dAdd (gC (.int 1)) (gBin dMod (gBin dIdx (gVar 0) (gBin dAdd (gC (.int 1)) (gBin dMul (gC (.int 2)) (gVar 3)))) (gBin dIdx (gLst (gCons (gC (.int 3)) (gCons (gC (.int 9)) (gCons (gC (.int 70)) gNil)))) (gBin dMod (gBin dFdiv (gBin dIdx (gVar 0) (gC (.int 0))) (gC (.int 8))) (gC (.int 3)))))))
  (mSeq (mIf (gTest (gBin dEq (gBin dMod (gBin dIdx (gVar 0) (gBin dAdd (gC (.int 1)) (gBin dMul (gC (.int 2)) (gVar 3)))) (gC (.int 17))) (gC (.int 16))))
  (mSeq (mSet 4 (gBin dPow (gC (.int 10)) (gC (.int 50))))
  mNil)
  mNil)
  (mSeq (mApp 2 (gTup (gCons (gVar 4) (gCons (gBin dSub (gBin dMod (gBin dIdx (gVar 0) (gBin dAdd (gC (.int 2)) (gBin dMul (gC (.int 2)) (gVar 3)))) (gC (.int 9))) (gC (.int 4))) gNil))))
  mNil)))
def m_walks_L : Sl → O := (mSeq (mSet 2 (gLst gNil))
  (mSeq (mFor (gRange1 (gBin dMod (gBin dIdx (gVar 0) (gC (.int 0))) (gBin dAdd (gVar 1) (gC (.int 1))))) (.one 3) b_walks_L_1)
  (mSeq (mRetV 2)
  mNil)))
def f_walks_L : List D → R D := runF m_walks_L 3

def b_adds_L_1 : Sl → O := (mSeq (mApp 2 (gTup (gCons (gVar 3) (gCons (gBin dAdd (gVar 4) (gCall fSum (gCons (gComp (gIter (gVar 1)) (.tup [5, 6]) [5, 6] gYes (gBin dMul (gVar 6) (gCall fMin2 (gCons (gVar 5) (gCons (gVar 3) gNil))))) gNil))) gNil))))
  mNil)
def m_adds_L : Sl → O := (mSeq (mSet 2 (gLst gNil))
  (mSeq (mFor (gIter (gVar 0)) (.tup [3, 4]) b_adds_L_1)
  (mSeq (mRet (gCall fSorted (gCons (gVar 2) gNil)))
  mNil)))
def f_adds_L : List D → R D := runF m_adds_L 5

def b_ten_L_1 : Sl → O := (mSeq (mSet 1 (gBin dMul (gVar 1) (gC (.int 10))))
  mNil)
def m_ten_L : Sl → O := (mSeq (mSet 1 (gC (.int 1)))
  (mSeq (mFor (gRange1 (gVar 0)) (.one 2) b_ten_L_1)
  (mSeq (mRet (gVar 1))
  mNil)))
def f_ten_L : List D → R D := runF m_ten_L 2

def m_offsets_L : Sl → O := (mSeq (mRet (gComp (gIter (gVar 0)) (.tup [2, 3]) [2, 3] (gTest (gBin dEq (gVar 2) (gVar 1))) (gVar 3)))
  mNil)
def f_offsets_L : List D → R D := runF m_offsets_L 2

def b_bars_L_1 : Sl → O := (mSeq (mIf (gTest (gBin dNe (gCall fLen (gCons (gCall f_offsets_L (gCons (gVar 0) (gCons (gVar 4) gNil))) gNil)) (gCall fLen (gCons (gCall f_offsets_L (gCons (gVar 1) (gCons (gVar 4) gNil))) gNil))))
  (mSeq (mApp 2 (gTup (gCons (gC (.str "sizes")) (gCons (gVar 4) gNil))))
  mNil)
  mNil)
  mNil)
def b_bars_L_2 : Sl → O := (mSeq (mSet 6 (gBin dListZip (gCall f_offsets_L (gCons (gVar 0) (gCons (gVar 4) gNil))) (gCall f_offsets_L (gCons (gVar 1) (gCons (gVar 4) gNil)))))
  (mSeq (mIf (gTest (gBin dGt (gUn dLenSet (gComp (gIter (gVar 6)) (.tup [7, 8]) [7, 8] gYes (gBin dSub (gVar 8) (gVar 7)))) (gC (.int 1))))
  (mSeq (mApp 2 (gTup (gCons (gC (.str "apart")) (gCons (gVar 4) gNil))))
  mNil)
  mNil)
  mNil))
def m_bars_L : Sl → O := (mSeq (mSet 2 (gLst gNil))
  (mSeq (mSet 3 (gUn dSet (gComp (gIter (gBin dAdd (gVar 0) (gVar 1))) (.tup [4, 5]) [4, 5] gYes (gVar 4))))
  (mSeq (mFor (gIter (gVar 3)) (.one 4) b_bars_L_1)
  (mSeq (mIf (gTest (gBin dNe (gVar 2) (gLst gNil)))
  (mSeq (mRetV 2)
  mNil)
  mNil)
  (mSeq (mFor (gIter (gVar 3)) (.one 4) b_bars_L_2)
  (mSeq (mRetV 2)
  mNil))))))
def f_bars_L : List D → R D := runF m_bars_L 7

def b_walks_right_L_1 : Sl → O := (mSeq (mIf (gOr (gNot (gTest (gCall (f_same_L 8) (gCons (gLst (gCons (gBin dAdd (gVar 8) (gC (.int 0))) (gCons (gBin dAdd (gVar 9) (gC (.int 0))) gNil))) (gCons (gLst (gCons (gVar 8) (gCons (gVar 9) gNil))) gNil))))) (gOr (gNot (gTest (gChain dLe dLe (gC (.int 1)) (gVar 8) (gVar 4)))) (gTest (gBin dEq (gVar 9) (gC (.int 0))))))
  (mSeq (mRet (gC (.bl false)))
  mNil)
  mNil)
  mNil)
def m_walks_right_L : Sl → O := (mSeq (mIf (gOr (gNot (gTest (gUn (dIs .list) (gVar 2)))) (gNot (gTest (gCall fAll (gCons (gComp (gIter (gVar 2)) (.one 3) [3] gYes (vAnd (gUn (dIs .tuple) (gVar 3)) (gBin dEq (gCall fLen (gCons (gVar 3) gNil)) (gC (.int 2))))) gNil)))))
  (mSeq (mRet (gC (.bl false)))
  mNil)
  mNil)
  (mSeq (mSet 4 (gBin fMaxD (gComp (gIter (gCall f_trains (gCons (gCall fList (gCons (gVar 0) gNil)) gNil))) (.tup [5, 6]) [5, 6] gYes (gVar 5)) (gC (.int 0))))
  (mSeq (mSet 7 (gComp (gIter (gVar 2)) (.tup [8, 9]) [8, 9] gYes (gVar 8)))
  (mSeq (mFor (gIter (gVar 2)) (.tup [8, 9]) b_walks_right_L_1)
  (mSeq (mRet (vAnd (gBin dEq (gUn dLenSet (gVar 7)) (gCall fLen (gCons (gVar 7) gNil))) (gBin dEq (gCall f_far (gCons (gCall fList (gCons (gVar 0) gNil)) (gCons (gCall fList (gCons (gVar 2) gNil)) gNil))) (gVar 1))))
  mNil)))))
def f_walks_right_L : List D → R D := runF m_walks_right_L 7

def m_right_L : Sl → O := (mSeq (mSet 2 (gLst (gCons (gCall fList (gCons (gVar 0) gNil)) (gCons (gCall fList (gCons (gVar 1) gNil)) gNil))))
  (mSeq (mSet 3 (gCall f_kin (gCons (gBin dIdx (gVar 2) (gC (.int 0))) (gCons (gBin dIdx (gVar 2) (gC (.int 1))) gNil))))
  (mSeq (mSet 4 (gCall f_bars_L (gCons (gCall f_list_L (gCons (gVar 0) gNil)) (gCons (gCall f_list_L (gCons (gVar 1) gNil)) gNil))))
  (mSeq (mIf (gOr (gTest (gBin dNe (gVar 2) (gLst (gCons (gVar 0) (gCons (gVar 1) gNil))))) (gOr (gNot (gTest (gScal (gUn (dIs .tuple) (gVar 3))))) (gTest (gBin dNe (gScal (gCall fLen (gCons (gVar 3) gNil))) (gC (.int 2))))))
  (mSeq (mRet (gC (.bl false)))
  mNil)
  mNil)
  (mSeq (mIf (gTest (gBin dNe (gVar 4) (gLst gNil)))
  (mSeq (mRet (gCall fAny (gCons (gComp (gIter (gVar 4)) (.one 5) [5] gYes (gScal (gCall (f_same_L 8) (gCons (gVar 3) (gCons (gVar 5) gNil))))) gNil)))
  mNil)
  mNil)
  (mSeq (mIf (gOr (gNot (gTest (gScal (gCall (f_same_L 8) (gCons (gBin dIdx (gVar 3) (gC (.int 0))) (gCons (gC (.str "walks")) gNil)))))) (gNot (gTest (gScal (gCall f_walks_right_L (gCons (gVar 0) (gCons (gVar 1) (gCons (gBin dIdx (gVar 3) (gC (.int 1))) gNil))))))))
  (mSeq (mRet (gC (.bl false)))
  mNil)
  mNil)
  (mSeq (mEltAppT 3 1 (gTup (gCons (gC (.int 1)) (gCons (gC (.int 1)) gNil))))
  (mSeq (mSet 6 (gCall f_kin (gCons (gBin dIdx (gVar 2) (gC (.int 0))) (gCons (gBin dIdx (gVar 2) (gC (.int 1))) gNil))))
  (mSeq (mRet (vAnd (gBin dEq (gBin dIdx (gVar 6) (gC (.int 0))) (gC (.str "walks"))) (gCall f_walks_right_L (gCons (gVar 0) (gCons (gVar 1) (gCons (gBin dIdx (gVar 6) (gC (.int 1))) gNil))))))
  mNil)))))))))
def f_right_L : List D → R D := runF m_right_L 5

def m_law : Sl → O := (mSeq (mSet 1 (gCall f_numbers_L (gCons (gVar 0) (gCons (gC (.int 120)) gNil))))
  (mSeq (mSet 2 (gCall f_long_row_L (gCons (gSl (gVar 1) (gPart (gC (.int 5))) gNoPart) (gCons (gBin dIdx (gLst (gCons (gC (.int 5)) (gCons (gC (.int 12)) (gCons (gC (.int 20)) gNil)))) (gBin dMod (gBin dIdx (gVar 1) (gC (.int 0))) (gC (.int 3)))) gNil))))
  (mSeq (mSet 3 (gBin dAdd (gCall f_walks_L (gCons (gSl (gVar 1) (gPart (gC (.int 40))) gNoPart) (gCons (gC (.int 6)) gNil))) (gLst (gCons (gTup (gCons (gBin dAdd (gC (.int 1)) (gBin dMod (gBin dIdx (gVar 1) (gC (.int 1))) (gC (.int 9)))) (gCons (gBin dMul (gBin dSub (gBin dMod (gBin dIdx (gVar 1) (gC (.int 2))) (gC (.int 9))) (gC (.int 4))) (gCall f_ten_L (gCons (gBin dMod (gBin dIdx (gVar 1) (gC (.int 3))) (gC (.int 30))) gNil))) gNil))) gNil))))
  (mSeq (mSet 4 (gCall f_adds_L (gCons (gCall f_list_L (gCons (gVar 2) gNil)) (gCons (gVar 3) gNil))))
  (mSeq (mSet 5 (gLst (gCons (gVar 2) (gCons (gCall f_stones_L (gCons (gVar 4) gNil)) (gCons (gCall f_long_row_L (gCons (gSl (gVar 1) (gPart (gC (.int 60))) gNoPart) (gCons (gC (.int 12)) gNil))) gNil)))))
  (mSeq (mIf (gTest (gBin dNe (gVar 4) (gLst gNil)))
  (mSeq (mSet 6 (gBin dMod (gBin dIdx (gVar 1) (gC (.int 4))) (gCall fLen (gCons (gVar 4) gNil))))
  (mSeq (mSet 7 (gBin dAdd (gBin dAdd (gSl (gVar 4) gNoPart (gPart (gVar 6))) (gLst (gCons (gTup (gCons (gBin dIdx (gBin dIdx (gVar 4) (gVar 6)) (gC (.int 0))) (gCons (gBin dAdd (gBin dAdd (gBin dIdx (gBin dIdx (gVar 4) (gVar 6)) (gC (.int 1))) (gC (.int 1))) (gBin dMod (gBin dIdx (gVar 1) (gC (.int 1))) (gC (.int 5)))) gNil))) gNil))) (gSl (gVar 4) (gPart (gBin dAdd (gVar 6) (gC (.int 1)))) gNoPart)))
  (mSeq (mApp 5 (gCall f_stones_L (gCons (gVar 7) gNil)))
  (mSeq (mApp 5 (gCall f_stones_L (gCons (gBin dAdd (gBin dAdd (gSl (gVar 4) gNoPart (gPart (gVar 6))) (gLst (gCons (gTup (gCons (gBin dAdd (gBin dIdx (gBin dIdx (gVar 4) (gVar 6)) (gC (.int 0))) (gC (.int 1))) (gCons (gBin dIdx (gBin dIdx (gVar 4) (gVar 6)) (gC (.int 1))) gNil))) gNil))) (gSl (gVar 4) (gPart (gBin dAdd (gVar 6) (gC (.int 1)))) gNoPart)) gNil)))
  (mSeq (mApp 5 (gCall f_stones_L (gCons (gBin dAdd (gVar 7) (gSl (gVar 4) gNoPart (gPart (gC (.int 1))))) gNil)))
  mNil)))))
  mNil)
  (mSeq (mRet (gCall fAll (gCons (gComp (gIter (gVar 5)) (.one 8) [8] gYes (vAnd (gCall f_right_L (gCons (gVar 2) (gCons (gVar 8) gNil))) (gCall f_right_L (gCons (gVar 8) (gCons (gVar 2) gNil))))) gNil)))
  mNil)))))))
def f_law : List D → R D := runF m_law 8

theorem foldl_app {α β : Type} (g : α → β) : ∀ (l : List α) (a : List β), l.foldl (fun acc p => acc ++ [g p]) a = a ++ l.map g
  | [], a => by simp
  | x :: l, a => by rw [List.foldl_cons, foldl_app g l, List.map_cons, List.append_assoc]; rfl
def Walks (ws : List (Int × Int)) : Prop := ∀ w ∈ ws, 1 ≤ w.1
theorem forL_foldI {α σ : Type} (F : α → D) (f : σ → α → σ) (R : Nat → σ → Sl → Prop) (t : Tg) (mb : Sl → O) : ∀ (l : List α) (n : Nat) (s : σ) (r : Sl), R n s r → (∀ i x, i < l.length → x ∈ l → ∀ s r, R (n + i) s r → ∃ xs r', t.un (F x) = .ok xs ∧ mb (setD r t.is xs) = .nx r' ∧ R (n + i + 1) (f s x) r') → ∃ r', forL t mb (l.map F) r = .nx r' ∧ R (n + l.length) (l.foldl f s) r'
  | [], n, s, r, h, _ => ⟨r, rfl, h⟩
  | x :: l, n, s, r, h, k => by
    obtain ⟨xs, r1, e1, e2, h1⟩ := k 0 x (by simp) List.mem_cons_self s r h
    obtain ⟨r', e3, h3⟩ := forL_foldI F f R t mb l (n + 1) (f s x) r1 h1 fun i y hi hy s r q => by
      have e : n + 1 + i = n + (i + 1) := by omega
      rw [e] at q ⊢
      exact k (i + 1) y (by simp; omega) (List.mem_cons_of_mem _ hy) s r q
    refine ⟨r', ?_, by rw [List.length_cons, show n + (l.length + 1) = n + 1 + l.length by omega]; exact h3⟩
    rw [← e3]
    show (match t.un (F x) with
      | .ok xs => (match mb (setD r t.is xs) with
        | .nx r' => forL t mb (l.map F) r'
        | o => o)
      | _ => .stuck) = _
    rw [e1]
    dsimp only
    rw [e2]
theorem app_pair (ps : List (Int × Int)) (a b : Int) : ps.map twoD ++ [D.tup [.int a, .int b]] = (ps ++ [(a, b)]).map twoD := by simp [twoD]
theorem fSorted_two (ps : List (Int × Int)) : fSorted [.lst (ps.map twoD)] = .ok (.lst ((sortBy ltII ps).map twoD)) := by
  cases ps with
  | nil => rfl
  | cons p r =>
    dsimp only [fSorted]
    have e : intsOf ((p :: r).map twoD) = none := rfl
    rw [e, pairsOf_map]

def byw (ws : List (Int × Int)) (s : Int) : Int := (ws.map fun w => w.2 * (if s < w.1 then s else w.1)).sum
def addL (ps ws : List (Int × Int)) : List (Int × Int) := ps.map fun p => (p.1, p.2 + byw ws p.1)
def Posi (ps : List (Int × Int)) : Prop := ∀ p ∈ ps, 1 ≤ p.1
/-- all stones together -/
def weight (ps : List (Int × Int)) : Nat := (ps.map fun p => p.1.toNat).sum
theorem fSum_ints (l : List Int) : fSum [.lst (l.map D.int)] = .ok (.int l.sum) := by
  dsimp only [fSum]
  rw [intsOf_map]
theorem fSum_map {γ : Type} (l : List γ) (G : γ → Int) : fSum [.lst (l.map fun x => D.int (G x))] = .ok (.int (l.map G).sum) := by
  have e : (l.map fun x => D.int (G x)) = (l.map G).map D.int := by rw [List.map_map]; rfl
  rw [e, fSum_ints]

theorem weight_perm {ps qs : List (Int × Int)} (h : ps.Perm qs) : weight ps = weight qs := by
  induction h with
  | nil => rfl
  | cons x _ ih => simp [weight] at *; omega
  | swap x y l => simp [weight]; omega
  | trans _ _ h1 h2 => exact h1.trans h2
theorem size_le {ps : List (Int × Int)} {p : Int × Int} (hp : p ∈ ps) (h : Posi ps) : p.1 ≤ (weight ps : Int) := by
  have w := weight_perm (List.perm_cons_erase hp)
  have h1 := h p hp
  simp [weight] at *
  omega

theorem adds_ok (ps ws : List (Int × Int)) (h : Walks ws) (hp : Posi ps) (hw : weight ps ≤ 10000) (hl : ps.length ≤ 500) : f_adds_L [.lst (ps.map twoD), .lst (ws.map twoD)] = .ok (.lst ((sortBy ltII (addL ps ws)).map twoD)) := by
  obtain ⟨r', e, _, a, b, hr⟩ := forL_foldI twoD (fun (acc : List (Int × Int)) (p : Int × Int) => acc ++ [(p.1, p.2 + byw ws p.1)]) (fun n s t => s.length ≤ n ∧ ∃ a b, t = [some (.lst (ps.map twoD)), some (.lst (ws.map twoD)), some (.lst (s.map twoD)), a, b, none, none]) (.tup [3, 4]) b_adds_L_1 ps 0 [] [some (.lst (ps.map twoD)), some (.lst (ws.map twoD)), some (.lst []), none, none, none, none] ⟨by simp, none, none, rfl⟩ (fun i p hi hp0 s t ⟨hs, a, b, e⟩ => by
    subst e
    have c : gComp (gIter (gVar 1)) (.tup [5, 6]) [5, 6] gYes (gBin dMul (gVar 6) (gCall fMin2 (VL.gCons (gVar 5) (VL.gCons (gVar 3) VL.gNil)))) [some (.lst (ps.map twoD)), some (.lst (ws.map twoD)), some (.lst (s.map twoD)), some (.int p.1), some (.int p.2), none, none] = .ok (.lst (ws.map fun w => D.int (w.2 * (if p.1 < w.1 then p.1 else w.1)))) :=
      gComp_map (F := twoD) rfl fun w hw => by
        have w1 := h w hw
        have h1 := hp p hp0
        have h2 := size_le hp0 hp
        have m : mulOk w.2 (if p.1 < w.1 then p.1 else w.1) = true := mulOk_right (by split <;> omega) (by split <;> omega)
        simp [gTurn, twoD, m]
    have sm := fSum_map ws fun w => w.2 * (if p.1 < w.1 then p.1 else w.1)
    have lz : s.length < szL := lt_szL (by omega)
    refine ⟨[.int p.1, .int p.2], [some (.lst (ps.map twoD)), some (.lst (ws.map twoD)), some (.lst ((s ++ [(p.1, p.2 + byw ws p.1)]).map twoD)), some (.int p.1), some (.int p.2), none, none], rfl, ?_, by simp; omega, _, _, rfl⟩
    rw [← app_pair]
    have hb : byw ws p.1 = (ws.map fun w => w.2 * (if p.1 < w.1 then p.1 else w.1)).sum := rfl
    rw [hb]
    generalize (ws.map fun w => w.2 * (if p.1 < w.1 then p.1 else w.1)).sum = sv at *
    generalize (ws.map fun w => D.int (w.2 * (if p.1 < w.1 then p.1 else w.1))) = sw at *
    simp [b_adds_L_1, c, sm, lz])
  subst hr
  rw [foldl_app (fun p : Int × Int => (p.1, p.2 + byw ws p.1)), List.nil_append] at e
  have s := fSorted_two (addL ps ws)
  have e' : forL (.tup [3, 4]) b_adds_L_1 (ps.map twoD) [some (.lst (ps.map twoD)), some (.lst (ws.map twoD)), some (.lst []), none, none, none, none] = .nx [some (.lst (ps.map twoD)), some (.lst (ws.map twoD)), some (.lst ((addL ps ws).map twoD)), a, b, none, none] := e
  generalize (addL ps ws).map twoD = aa at *
  simp [f_adds_L, m_adds_L, e', s]

theorem dRange2_gen (a b : Nat) (ha : a ≤ 16777216) (h : b ≤ 16777216) : dRange2 (.int (a : Int)) (.int (b : Int)) = .ok ((List.range' a (b - a)).map fun (i : Nat) => D.int i) := by
  dsimp only [dRange2]
  rw [if_pos (by rw [szL_val]; omega), show ((b : Int) - (a : Int)).toNat = b - a by omega]
  unfold rangeD
  rw [List.range'_eq_map_range]
  simp
def Rising (r : List Int) : Prop := r.Pairwise (· < ·)
theorem dIdx_list {ds : List D} {i : Nat} {d : D} (h : ds[i]? = some d) : dIdx (.lst ds) (.int i) = .ok d := by
  dsimp only [dIdx]
  rw [atI_nat h]
theorem int_at {l : List Int} {i : Nat} {v : Int} (h : l[i]? = some v) {j : Int} (hj : j = (i : Int)) : dIdx (.lst (l.map D.int)) (.int j) = .ok (.int v) := by
  subst hj
  refine dIdx_list ?_
  rw [List.getElem?_map, h]
  rfl
theorem int_in {l : List Int} {i : Nat} (h : i < l.length) {j : Int} (hj : j = (i : Int)) : dIdx (.lst (l.map D.int)) (.int j) = .ok (.int l[i]) := int_at (List.getElem?_eq_getElem h) hj

def badW (ws : List (Int × Int)) : Bool := ws.any fun w => decide (w.1 < 1)
theorem forL_step {t : Tg} {mb : Sl → O} {d : D} {ds : List D} {r r' : Sl} {xs : List D} (h1 : t.un d = .ok xs) (h2 : mb (setD r t.is xs) = .nx r') : forL t mb (d :: ds) r = forL t mb ds r' := by
  show (match t.un d with
      | .ok xs => (match mb (setD r t.is xs) with
        | .nx r' => forL t mb ds r'
        | o => o)
      | _ => .stuck) = _
  rw [h1]
  dsimp only
  rw [h2]
theorem forL_first {α : Type} (F : α → D) (bad : α → Bool) (R : Sl → Prop) (out : α → Sl → O) (no : ∀ x r r2, out x r ≠ .nx r2) (t : Tg) (mb : Sl → O) : ∀ (l : List α) (r : Sl), R r → (∀ x ∈ l, ∀ r, R r → ∃ xs r', t.un (F x) = .ok xs ∧ R r' ∧ mb (setD r t.is xs) = if bad x then out x r' else .nx r') →
    ∃ r', R r' ∧ forL t mb (l.map F) r = match l.find? bad with
      | some x => out x r'
      | none => .nx r'
  | [], r, h, _ => ⟨r, h, rfl⟩
  | x :: l, r, h, k => by
    obtain ⟨xs, r1, e1, h1, e2⟩ := k x List.mem_cons_self r h
    cases c : bad x with
    | false =>
      rw [c, if_neg (by simp)] at e2
      obtain ⟨r', h3, e3⟩ := forL_first F bad R out no t mb l r1 h1 fun y hy => k y (List.mem_cons_of_mem _ hy)
      refine ⟨r', h3, ?_⟩
      rw [List.map_cons, forL_step e1 e2, e3, List.find?_cons, c]
    | true =>
      rw [c, if_pos rfl] at e2
      refine ⟨r1, h1, ?_⟩
      rw [List.find?_cons, c]
      show (match t.un (F x) with
        | .ok xs => (match mb (setD r t.is xs) with
          | .nx r' => forL t mb (l.map F) r'
          | o => o)
        | _ => .stuck) = _
      rw [e1]
      dsimp only
      rw [e2]
      cases q : out x r1 with
      | nx r2 => exact absurd q (no x r1 r2)
      | stuck => rfl
      | rt d r2 => rfl
      | exc y r2 => rfl

theorem look_walks_any (ws : List (Int × Int)) : f_look_walks [.lst (ws.map twoD)] = if badW ws then .exc ⟨"BadCreel", none⟩ else .ok .non := by
  obtain ⟨r', ⟨a, b, hr⟩, e⟩ := forL_first twoD (fun w => decide (w.1 < 1)) (fun t => ∃ a b, t = [some (.lst (ws.map twoD)), a, b]) (fun _ t => .exc ⟨"BadCreel", none⟩ t) (by intros; simp) (.tup [1, 2]) b_look_walks_1 ws [some (.lst (ws.map twoD)), none, none] ⟨none, none, rfl⟩ (fun w hw t ⟨a, b, e⟩ => by
    subst e
    refine ⟨[.int w.1, .int w.2], [some (.lst (ws.map twoD)), some (.int w.1), some (.int w.2)], rfl, ⟨_, _, rfl⟩, ?_⟩
    by_cases c : w.1 < 1 <;> simp [b_look_walks_1, f_look_creel, m_look_creel, c])
  subst hr
  have eb : badW ws = (ws.find? fun w => decide (w.1 < 1)).isSome := by
    rw [Bool.eq_iff_iff, List.find?_isSome]
    unfold badW
    rw [List.any_eq_true]
  rw [eb]
  generalize ws.find? (fun w => decide (w.1 < 1)) = fo at *
  cases fo <;> simp [f_look_walks, m_look_walks, e]
theorem forL_fold {α σ : Type} (F : α → D) (f : σ → α → σ) (R : σ → Sl → Prop) (t : Tg) (mb : Sl → O) : ∀ (l : List α) (s : σ) (r : Sl), R s r → (∀ x ∈ l, ∀ s r, R s r → ∃ xs r', t.un (F x) = .ok xs ∧ mb (setD r t.is xs) = .nx r' ∧ R (f s x) r') → ∃ r', forL t mb (l.map F) r = .nx r' ∧ R (l.foldl f s) r'
  | [], s, r, h, _ => ⟨r, rfl, h⟩
  | x :: l, s, r, h, k => by
    obtain ⟨xs, r1, e1, e2, h1⟩ := k x List.mem_cons_self s r h
    obtain ⟨r', e3, h3⟩ := forL_fold F f R t mb l (f s x) r1 h1 fun y hy => k y (List.mem_cons_of_mem _ hy)
    refine ⟨r', ?_, h3⟩
    rw [← e3]
    show (match t.un (F x) with
      | .ok xs => (match mb (setD r t.is xs) with
        | .nx r' => forL t mb (l.map F) r'
        | o => o)
      | _ => .stuck) = _
    rw [e1]
    dsimp only
    rw [e2]
theorem whileL_fin {tc : Sl → R Bool} {mb : Sl → O} {n : Nat} {r : Sl} (h : tc r = .ok false) : whileL tc mb (n + 1) r = .nx r := by
  show onR (tc r) r _ = _
  rw [h]
  rfl
theorem whileL_turn {tc : Sl → R Bool} {mb : Sl → O} {n : Nat} {r r' : Sl} (h : tc r = .ok true) (h2 : mb r = .nx r') : whileL tc mb (n + 1) r = whileL tc mb n r' := by
  show onR (tc r) r _ = _
  rw [h]
  dsimp only [onR]
  rw [if_pos rfl, h2]
theorem dEqB_two (a b : Int × Int) : dEqB (twoD a) (twoD b) = decide (a = b) := by
  show ((a.1 == b.1) && ((a.2 == b.2) && true)) = _
  obtain ⟨a1, a2⟩ := a
  obtain ⟨b1, b2⟩ := b
  by_cases h1 : a1 = b1 <;> by_cases h2 : a2 = b2 <;> simp [h1, h2]
/-- alike as far as it matters -/
def Rc (N : Nat) (a b : List Int) : Prop := a = b ∨ ∃ C a' b', a = C ++ a' ∧ b = C ++ b' ∧ N ≤ C.length
theorem Rc.symm {N : Nat} {a b : List Int} (h : Rc N a b) : Rc N b a := by
  rcases h with h | ⟨C, a', b', h1, h2, h3⟩
  · exact .inl h.symm
  · exact .inr ⟨C, b', a', h2, h1, h3⟩
theorem erase_idx : ∀ (ps : List (Int × Int)) (x : Int × Int), x ∈ ps → ∃ j, (ps.map twoD).findIdx? (fun z => dEqB z (twoD x)) = some j ∧ (ps.map twoD).eraseIdx j = (ps.erase x).map twoD
  | [], x, h => by cases h
  | y :: ps, x, h => by
    rw [List.map_cons, List.findIdx?_cons, dEqB_two, List.erase_cons]
    by_cases e : y = x
    · exact ⟨0, by simp [e], by simp [e]⟩
    · have m : x ∈ ps := by
        rcases List.mem_cons.mp h with z | z
        · exact absurd z.symm e
        · exact z
      obtain ⟨j, e1, e2⟩ := erase_idx ps x m
      refine ⟨j + 1, by simp [e, e1], ?_⟩
      have e' : (y == x) = false := by simpa using e
      rw [e', List.eraseIdx_cons_succ, e2]
      rfl
theorem remL_ok {ps : List (Int × Int)} {x : Int × Int} (h : x ∈ ps) (hz : ps.length ≤ szL) : remL (ps.map twoD) (.tup [.int x.1, .int x.2]) = some ((ps.erase x).map twoD) := by
  obtain ⟨j, e1, e2⟩ := erase_idx ps x h
  have s1 : shp (twoD x) = true := pl_shp (n := 2) (by decide) pl_pair
  have s2 : shp (.lst (ps.map twoD)) = true := pl_shp (n := 3) (by decide) (pl_pairs hz)
  have e0 : remL (ps.map twoD) (twoD x) = some ((ps.erase x).map twoD) := by
    unfold remL
    rw [s1, s2, e1]
    simp [e2]
  exact e0
/-- the item at -1 put anew -/
theorem ixN_last (n : Nat) (h : 0 < n) : ixN n (-1) = some (n - 1) := by
  unfold ixN
  simp
  omega
theorem Rc.drop {N k : Nat} {a b : List Int} (h : Rc N a b) (l : k ≤ N) : Rc (N - k) (a.drop k) (b.drop k) := by
  rcases h with h | ⟨C, a', b', h1, h2, h3⟩
  · exact .inl (by rw [h])
  · refine .inr ⟨C.drop k, a', b', ?_, ?_, by rw [List.length_drop]; omega⟩
    · rw [h1, List.drop_append_of_le_length (by omega)]
    · rw [h2, List.drop_append_of_le_length (by omega)]
theorem cutL_fromG {α : Type} {xs : List α} {k : Nat} {i : Int} (hi : i = (k : Int) := by rfl) : cutL xs (some i) none = xs.drop k := by
  by_cases h : k ≤ xs.length
  · exact cutL_from h hi
  · subst hi
    unfold cutL
    rw [HT.sIx_nat, HT.sIx_none, Nat.min_eq_right (by omega), Nat.sub_self, List.take_zero, List.drop_eq_nil_of_le (by omega)]
theorem ne_nil_two (ps : List (Int × Int)) (hz : ps.length ≤ 1000) : dNe (.lst (ps.map twoD)) (.lst []) = .ok (.bl (decide (ps ≠ []))) := by
  have s1 : shp (.lst (ps.map twoD)) = true := pl_shp (n := 3) (by decide) (pl_pairs (le_szL (by omega)))
  have s2 : shp (.lst ([].map twoD)) = true := pl_shp (n := 3) (by decide) (pl_pairs (le_szL (by decide)))
  have s2' : shp (.lst []) = true := s2
  unfold dNe
  rw [s1, s2']
  cases ps with
  | nil => rfl
  | cons p r => rfl
theorem two_at {ps : List (Int × Int)} {i : Nat} (h : i < ps.length) : dIdx (.lst (ps.map twoD)) (.int i) = .ok (.tup [.int ps[i].1, .int ps[i].2]) := by
  refine dIdx_list ?_
  rw [List.getElem?_map, List.getElem?_eq_getElem h]
  rfl
theorem dIdx_tup {ds : List D} {i : Nat} {d : D} (h : ds[i]? = some d) : dIdx (.tup ds) (.int i) = .ok d := by
  dsimp only [dIdx]
  rw [atI_nat h]

theorem tup0 (a b : D) : dIdx (.tup [a, b]) (.int 0) = .ok a := dIdx_tup (i := 0) rfl
theorem tup1 (a b : D) : dIdx (.tup [a, b]) (.int 1) = .ok b := dIdx_tup (i := 1) rfl
theorem mul2 (x : Int) : mulOk 2 x = true := mulOk_left (by decide) (by decide)
theorem set_last (fr : List (Int × Int)) (x y : D) : (fr.map twoD ++ [x]).set fr.length y = fr.map twoD ++ [y] := by
  rw [List.set_append_right _ _ (by simp)]
  simp
theorem ixN_snoc (n : Nat) : ixN (n + 1) (-1) = some n := ixN_last (n + 1) (by omega)
/-- a loop that ends early or looks at all -/
theorem forL_test {α : Type} (F : α → D) (ok : α → Bool) (R : Sl → Prop) (t : Tg) (mb : Sl → O) (d0 : D) : ∀ (l : List α) (r : Sl), R r → (∀ x ∈ l, ∀ r, R r → ∃ xs r', t.un (F x) = .ok xs ∧ R r' ∧ mb (setD r t.is xs) = if ok x then .nx r' else .rt d0 r') →
    ∃ r', R r' ∧ forL t mb (l.map F) r = if l.all ok then .nx r' else .rt d0 r'
  | [], r, h, _ => ⟨r, h, rfl⟩
  | x :: l, r, h, k => by
    obtain ⟨xs, r1, e1, h1, e2⟩ := k x List.mem_cons_self r h
    cases c : ok x with
    | true =>
      rw [c, if_pos rfl] at e2
      obtain ⟨r', h3, e3⟩ := forL_test F ok R t mb d0 l r1 h1 fun y hy => k y (List.mem_cons_of_mem _ hy)
      refine ⟨r', h3, ?_⟩
      rw [List.map_cons, forL_step e1 e2, e3, List.all_cons, c, Bool.true_and]
    | false =>
      rw [c, if_neg (by simp)] at e2
      refine ⟨r1, h1, ?_⟩
      rw [List.all_cons, c, Bool.false_and, if_neg (by simp)]
      show (match t.un (F x) with
        | .ok xs => (match mb (setD r t.is xs) with
          | .nx r' => forL t mb (l.map F) r'
          | o => o)
        | _ => .stuck) = _
      rw [e1]
      dsimp only
      rw [e2]
theorem last_getD (r : List Int) (h : r ≠ []) : dIdx (.lst (r.map D.int)) (.int (-1)) = .ok (.int (r.getLastD 0)) := by
  rcases List.eq_nil_or_concat r with e | ⟨l, x, e⟩
  · exact absurd e h
  · rw [List.concat_eq_append] at e
    subst e
    dsimp only [dIdx]
    rw [List.map_append]
    show (match atI (l.map D.int ++ [D.int x]) (-1) with
      | some d => R.ok d
      | none => .stuck) = _
    rw [atI_last]
    simp
theorem head_getD (r : List Int) (h : r ≠ []) : dIdx (.lst (r.map D.int)) (.int 0) = .ok (.int (r.headD 0)) := by
  cases r with
  | nil => exact absurd rfl h
  | cons x r => exact dIdx_list (i := 0) rfl
/-- stones less empty niches behind s, s itself counted -/
def balN (R : List Int) (s : Int) : Nat → Int
  | 0 => 1
  | d + 1 => balN R s d + (if s + ((d : Int) + 1) ∈ R then 1 else -1)
def Clo (R : List Int) (s n : Int) : Prop := ∃ d : Nat, n = s + d ∧ balN R s d = 0 ∧ ∀ e, e < d → 1 ≤ balN R s e
def lsr (a s : Int) : Int := if a < s then a else s
def share (ps : List (Int × Int)) (s : Int) : Int := (ps.map fun p => if p.1 < s then p.1 else s).sum
theorem share_cons (p : Int × Int) (ps : List (Int × Int)) (s : Int) : share (p :: ps) s = lsr p.1 s + share ps s := by
  simp [share, lsr]
theorem share_app (ps qs : List (Int × Int)) (s : Int) : share (ps ++ qs) s = share ps s + share qs s := by
  simp [share]
theorem share_perm {ps qs : List (Int × Int)} (h : ps.Perm qs) (s : Int) : share ps s = share qs s := by
  induction h with
  | nil => rfl
  | cons x _ ih => rw [share_cons, share_cons, ih]
  | swap x y l => rw [share_cons, share_cons, share_cons, share_cons]; omega
  | trans _ _ h1 h2 => exact h1.trans h2
/-- where a train is ripe -/
def vac (ps : List (Int × Int)) (p : Int × Int) : Int := p.2 + 2 * share ps p.1
def ripes (ps : List (Int × Int)) (q : Int) : List Int := (ps.filter fun p => vac ps p == q).map (·.1)
def longest (ps : List (Int × Int)) (q : Int) : Int := if ripes ps q = [] then 0 else lmax (ripes ps q)
def grow (ps : List (Int × Int)) (p : Int) : List (Int × Int) :=
  (if 0 < longest ps (p - 1) then ps.erase (longest ps (p - 1), p - 1 - 2 * share ps (longest ps (p - 1))) else ps) ++
    [(longest ps (p - 1) + 1, p - 2 * (share (if 0 < longest ps (p - 1) then ps.erase (longest ps (p - 1), p - 1 - 2 * share ps (longest ps (p - 1))) else ps) (longest ps (p - 1) + 1) + longest ps (p - 1) + 1))]
theorem lmax_le : ∀ {l : List Int} {x : Int}, x ∈ l → x ≤ lmax l
  | [], _, h => by cases h
  | [y], x, h => by
    have : x = y := by simpa using h
    subst this
    exact Int.le_refl _
  | y :: z :: r, x, h => by
    unfold lmax
    rcases List.mem_cons.mp h with e | h
    · subst e; exact Int.le_max_left _ _
    · exact Int.le_trans (lmax_le h) (Int.le_max_right _ _)
theorem mem_ripes {ps : List (Int × Int)} {q s : Int} : s ∈ ripes ps q ↔ (s, q - 2 * share ps s) ∈ ps := by
  constructor
  · intro h
    obtain ⟨p, hp, e⟩ := List.mem_map.mp h
    obtain ⟨h1, h2⟩ := List.mem_filter.mp hp
    have h3 : vac ps p = q := by simpa using h2
    unfold vac at h3
    have : p = (s, q - 2 * share ps s) := by
      subst e
      exact Prod.ext rfl (by show p.2 = _; omega)
    rw [← this]; exact h1
  · intro h
    refine List.mem_map.mpr ⟨_, List.mem_filter.mpr ⟨h, ?_⟩, rfl⟩
    have : vac ps (s, q - 2 * share ps s) = q := by unfold vac; show q - 2 * share ps s + 2 * share ps s = q; omega
    simpa using this
theorem lmax_mem : ∀ {l : List Int}, l ≠ [] → lmax l ∈ l
  | [], h => absurd rfl h
  | [x], _ => by simp [lmax]
  | x :: y :: r, _ => by
    have ih := lmax_mem (l := y :: r) (by simp)
    unfold lmax
    rcases Int.le_total x (lmax (y :: r)) with h | h
    · rw [Int.max_eq_right h]; exact List.mem_cons_of_mem _ ih
    · rw [Int.max_eq_left h]; exact List.mem_cons_self
theorem longest_nonneg {ps : List (Int × Int)} (h : Posi ps) (q : Int) : 0 ≤ longest ps q := by
  unfold longest
  split
  · exact Int.le_refl _
  · rename_i n
    have := h _ (mem_ripes.mp (lmax_mem n))
    have : 1 ≤ lmax (ripes ps q) := this
    omega
theorem longest_mem {ps : List (Int × Int)} {q : Int} (c : 0 < longest ps q) : (longest ps q, q - 2 * share ps (longest ps q)) ∈ ps := by
  have n : ripes ps q ≠ [] := fun z => by
    unfold longest at c
    rw [if_pos z] at c
    omega
  have e : longest ps q = lmax (ripes ps q) := by unfold longest; rw [if_neg n]
  have m := mem_ripes.mp (lmax_mem n)
  rw [← e] at m
  exact m
def zst (s o : Int) : List (Int × Int) := if 0 < s then [(s, o)] else []
theorem share_z {s o i : Int} (hs : 0 ≤ s) (hi : 0 ≤ i) : share (zst s o) i = lsr s i := by
  unfold zst
  by_cases h : 0 < s
  · rw [if_pos h, share_cons]
    simp [share]
  · rw [if_neg h]
    unfold lsr
    simp [share]
    split <;> omega
/-- a train of size s (0: none) grows at q; f what its mark is put forward by -/
structure Gro (f : Int → Int) (M : List (Int × Int)) (q s : Int) (R M' : List (Int × Int)) : Prop where
  s0 : 0 ≤ s
  m : M.Perm (zst s (q - 1 + f s - 2 * share M s) ++ R)
  m' : M'.Perm ((s + 1, q + f (s + 1) - 2 - 2 * share M (s + 1)) :: R)
  top : ∀ p ∈ M, s < p.1 → vac M p ≠ q - 1 + f p.1
theorem vac_perm {M N : List (Int × Int)} (h : M.Perm N) (p : Int × Int) : vac M p = vac N p := by
  unfold vac
  rw [share_perm h]
def Stk (R : List Int) : Nat → List Int → Int → Prop
  | _, [], _ => True
  | k, s :: T, t => (∃ d : Nat, t = s + d ∧ balN R s d = (k : Int) + 1 ∧ ∀ e, e ≤ d → 1 ≤ balN R s e) ∧ Stk R (k + 1) T t
theorem Stk.new {R : List Int} {p : Int} {T : List Int} (h : Stk R 1 T p) : Stk R 0 (p :: T) p := ⟨⟨0, by omega, rfl, fun e he => by
  have : e = 0 := by omega
  rw [this]
  exact Int.le_refl 1⟩, h⟩
abbrev Run := Bool × List Int
/-- two runs alike, N places deep when they are empty ones -/
def R1 (N : Nat) (p q : Run) : Prop := p.1 = q.1 ∧ (p.1 = true → p.2 = q.2) ∧ Rc N p.2 q.2
theorem R1.refl (N : Nat) (p : Run) : R1 N p p := ⟨rfl, fun _ => rfl, .inl rfl⟩
section
variable {f : Int → Int} {M M' N N' R R' E : List (Int × Int)} {q s t : Int}
theorem Gro.share (g : Gro f M q s R M') {i : Int} (hi : 0 ≤ i) : CW.share M' i = CW.share M i + (if s < i then 1 else 0) := by
  have h0 := g.s0
  have a := share_perm g.m' i
  have b := share_perm g.m i
  rw [share_cons] at a
  rw [share_app, share_z h0 hi] at b
  have a' : CW.share M' i = lsr (s + 1) i + CW.share R i := a
  rw [a', b]
  unfold lsr
  split <;> split <;> omega
theorem Gro.perm (g : Gro f M q s R M') (h : M.Perm N) (h' : M'.Perm N') : Gro f N q s R N' where
  s0 := g.s0
  m := by rw [← share_perm h]; exact h.symm.trans g.m
  m' := by rw [← share_perm h]; exact h'.symm.trans g.m'
  top := fun p hp hs => by rw [← vac_perm h]; exact g.top p (h.mem_iff.mpr hp) hs
theorem Gro.new (g : Gro f M q s R M') : (s + 1, q + f (s + 1) - 2 - 2 * CW.share M (s + 1)) ∈ M' ∧ vac M' (s + 1, q + f (s + 1) - 2 - 2 * CW.share M (s + 1)) = q + f (s + 1) := by
  have h0 := g.s0
  refine ⟨g.m'.mem_iff.mpr List.mem_cons_self, ?_⟩
  unfold vac
  rw [g.share (i := s + 1) (by omega), if_pos (by omega)]
  show _ - 2 - 2 * CW.share M (s + 1) + 2 * (CW.share M (s + 1) + 1) = _
  omega
theorem Gro.old (g : Gro f M q s R M') {p : Int × Int} (hp : p ∈ M') (h1 : 0 ≤ p.1) : p = (s + 1, q + f (s + 1) - 2 - 2 * CW.share M (s + 1)) ∨ p ∈ R ∧ p ∈ M ∧ vac M' p = vac M p + (if s < p.1 then 2 else 0) := by
  rcases List.mem_cons.mp (g.m'.mem_iff.mp hp) with e | hr
  · exact .inl e
  · refine .inr ⟨hr, g.m.mem_iff.mpr (List.mem_append_right _ hr), ?_⟩
    unfold vac
    rw [g.share h1]
    split <;> omega
theorem Gro.picked (g : Gro f M q s R M') (hs : 0 < s) : (s, q - 1 + f s - 2 * CW.share M s) ∈ M ∧ vac M (s, q - 1 + f s - 2 * CW.share M s) = q - 1 + f s := by
  refine ⟨g.m.mem_iff.mpr (List.mem_append_left _ (by unfold zst; rw [if_pos hs]; exact List.mem_cons_self)), ?_⟩
  unfold vac
  show q - 1 + f s - 2 * CW.share M s + 2 * CW.share M s = _
  omega
theorem Gro.posi (g : Gro f M q s R M') (h : Posi M) : Posi M' := fun p hp => by
  rcases List.mem_cons.mp (g.m'.mem_iff.mp hp) with e | hr
  · rw [e]
    have := g.s0
    show 1 ≤ s + 1
    omega
  · exact h p (g.m.mem_iff.mpr (List.mem_append_right _ hr))
theorem Gro.uniq (g : Gro f M q s R M') (g2 : Gro f N q t R' N') (h : M.Perm N) : s = t ∧ M'.Perm N' := by
  have a := g.s0
  have b := g2.s0
  have st : s = t := by
    rcases Int.lt_trichotomy s t with z | z | z
    · obtain ⟨p1, p2⟩ := g2.picked (by omega)
      exact absurd ((vac_perm h _).trans p2) (g.top _ (h.mem_iff.mpr p1) z)
    · exact z
    · obtain ⟨p1, p2⟩ := g.picked (by omega)
      exact absurd ((vac_perm h _).symm.trans p2) (g2.top _ (h.mem_iff.mp p1) z)
  subst st
  refine ⟨rfl, ?_⟩
  have e : ∀ i, CW.share M i = CW.share N i := fun i => share_perm h i
  have p1 : (zst s (q - 1 + f s - 2 * CW.share N s) ++ R).Perm (zst s (q - 1 + f s - 2 * CW.share N s) ++ R') := by
    have w := g.m.symm.trans (h.trans g2.m)
    rw [e s] at w
    exact w
  have p2 : R.Perm R' := (List.perm_append_left_iff _).mp p1
  have w := g.m'
  rw [e (s + 1)] at w
  exact w.trans ((List.Perm.cons _ p2).trans g2.m'.symm)
def shf (f : Int → Int) (ps : List (Int × Int)) : List (Int × Int) := ps.map fun p => (p.1, p.2 + f p.1)
theorem share_shf (f : Int → Int) (ps : List (Int × Int)) (i : Int) : CW.share (shf f ps) i = CW.share ps i := by
  unfold CW.share shf
  rw [List.map_map]
  rfl
theorem shf_perm (h : M.Perm N) : (shf f M).Perm (shf f N) := h.map _
theorem Gro.shift (g : Gro (fun _ => 0) M q s R M') : Gro f (shf f M) q s (shf f R) (shf f M') where
  s0 := g.s0
  m := by
    rw [share_shf]
    have w := shf_perm (f := f) g.m
    have e : shf f (zst s (q - 1 + 0 - 2 * CW.share M s) ++ R) = zst s (q - 1 + f s - 2 * CW.share M s) ++ shf f R := by
      unfold shf zst
      split
      · simp
        omega
      · simp
    rw [e] at w
    exact w
  m' := by
    rw [share_shf]
    have w := shf_perm (f := f) g.m'
    have e : shf f ((s + 1, q + 0 - 2 - 2 * CW.share M (s + 1)) :: R) = (s + 1, q + f (s + 1) - 2 - 2 * CW.share M (s + 1)) :: shf f R := by
      unfold shf
      simp
      omega
    rw [e] at w
    exact w
  top := fun p hp hs => by
    obtain ⟨p0, h0, rfl⟩ := List.mem_map.mp hp
    have := g.top p0 h0 hs
    unfold vac at this ⊢
    rw [share_shf]
    dsimp only at this ⊢
    omega
theorem gro_grow (h : Posi M) (q : Int) : ∃ R, Gro (fun _ => 0) M q (longest M (q - 1)) R (grow M q) := by
  have n0 := longest_nonneg h (q - 1)
  have top : ∀ p ∈ M, longest M (q - 1) < p.1 → vac M p ≠ q - 1 + 0 := fun p hp hs e => by
    have m : p.1 ∈ ripes M (q - 1) := List.mem_map.mpr ⟨p, List.mem_filter.mpr ⟨hp, by rw [e]; simp⟩, rfl⟩
    have n : ripes M (q - 1) ≠ [] := fun w => by rw [w] at m; cases m
    have : p.1 ≤ longest M (q - 1) := by
      unfold longest
      rw [if_neg n]
      exact lmax_le m
    omega
  have lss : ∀ a : Int, lsr a (a + 1) = a := fun a => by unfold lsr; split <;> omega
  by_cases c : 0 < longest M (q - 1)
  · have pc := List.perm_cons_erase (longest_mem c)
    have sh : CW.share M (longest M (q - 1) + 1) = longest M (q - 1) + CW.share (M.erase (longest M (q - 1), q - 1 - 2 * CW.share M (longest M (q - 1)))) (longest M (q - 1) + 1) := by
      rw [share_perm pc, share_cons, lss]
    have eg : grow M q = M.erase (longest M (q - 1), q - 1 - 2 * CW.share M (longest M (q - 1))) ++ [(longest M (q - 1) + 1, q - 2 * (CW.share (M.erase (longest M (q - 1), q - 1 - 2 * CW.share M (longest M (q - 1)))) (longest M (q - 1) + 1) + longest M (q - 1) + 1))] := by
      unfold grow
      rw [if_pos c]
    refine ⟨M.erase (longest M (q - 1), q - 1 - 2 * CW.share M (longest M (q - 1))), ⟨n0, ?_, ?_, top⟩⟩
    · unfold zst
      rw [if_pos c, show q - 1 + (0 : Int) - 2 * CW.share M (longest M (q - 1)) = q - 1 - 2 * CW.share M (longest M (q - 1)) by omega]
      exact pc
    · rw [eg]
      generalize longest M (q - 1) = L at *
      generalize M.erase (L, q - 1 - 2 * CW.share M L) = fr at *
      rw [sh, show q - 2 * (CW.share fr (L + 1) + L + 1) = q + 0 - 2 - 2 * (L + CW.share fr (L + 1)) by omega]
      exact List.perm_append_comm
  · have z : longest M (q - 1) = 0 := by omega
    refine ⟨M, ⟨n0, ?_, ?_, top⟩⟩
    · unfold zst
      rw [if_neg c]
      exact List.Perm.refl _
    · unfold grow
      rw [if_neg c, z, show q - 2 * (CW.share M (0 + 1) + 0 + 1) = q + 0 - 2 - 2 * CW.share M (0 + 1) by omega]
      exact List.perm_append_comm
end
theorem Clo.uniq {R : List Int} {s n m : Int} (a : Clo R s n) (b : Clo R s m) : n = m := by
  obtain ⟨d, rfl, h1, h2⟩ := a
  obtain ⟨e, rfl, g1, g2⟩ := b
  rcases Nat.lt_trichotomy d e with z | z | z
  · have := g2 d z; omega
  · rw [z]
  · have := h2 e z; omega
theorem set_ok (ss : List Int) (hz : ss.length ≤ 63) : dSet (.lst (ss.map D.int)) = .ok (.lst ((sortSet ss).map D.int)) := by
  dsimp only [dSet]
  rw [intsOf_map]
  dsimp only
  rw [if_pos hz]
/-- a list of drawn numbers -/
def Drawn (l : List Int) : Prop := ∀ d ∈ l, 0 ≤ d ∧ d < 9967
theorem drawn_get {l : List Int} (h : Drawn l) {i : Nat} (hi : i < l.length) {j : Int} (hj : j = (i : Int)) : ∃ v : Int, 0 ≤ v ∧ v < 9967 ∧ dIdx (.lst (l.map D.int)) (.int j) = .ok (.int v) := by
  subst hj
  refine ⟨l[i], (h _ (List.getElem_mem hi)).1, (h _ (List.getElem_mem hi)).2, dIdx_list ?_⟩
  rw [List.getElem?_map, List.getElem?_eq_getElem hi]
  rfl
theorem pick3 (a b c x : Int) : ∃ v : Int, (v = a ∨ v = b ∨ v = c) ∧ dIdx (.lst [.int a, .int b, .int c]) (.int (x.fmod 3)) = .ok (.int v) := by
  have f := fmod_pos (a := x) (b := 3) (by decide)
  rcases (show x.fmod 3 = 0 ∨ x.fmod 3 = 1 ∨ x.fmod 3 = 2 by omega) with h | h | h <;> rw [h]
  · exact ⟨a, .inl rfl, dIdx_list (i := 0) rfl⟩
  · exact ⟨b, .inr (.inl rfl), dIdx_list (i := 1) rfl⟩
  · exact ⟨c, .inr (.inr rfl), dIdx_list (i := 2) rfl⟩
theorem dEqB_ints : ∀ a b : List Int, dEqB (.lst (a.map D.int)) (.lst (b.map D.int)) = decide (a = b)
  | [], [] => rfl
  | [], y :: b => rfl
  | x :: a, [] => rfl
  | x :: a, y :: b => by
    show ((x == y) && dEqB (.lst (a.map D.int)) (.lst (b.map D.int))) = _
    rw [dEqB_ints a b, Bool.eq_iff_iff]
    simp
theorem eq_ints (a b : List Int) (ha : a.length ≤ 1000) (hb : b.length ≤ 1000) : dEq (.lst (a.map D.int)) (.lst (b.map D.int)) = .ok (.bl (decide (a = b))) := by
  unfold dEq
  rw [pl_shp (n := 2) (by decide) (pl_ints (n := 0) (le_szL (by omega))), pl_shp (n := 2) (by decide) (pl_ints (n := 0) (le_szL (by omega))), dEqB_ints]
  rfl
theorem by_walks_ok (ws : List (Int × Int)) (s : Int) (h : Walks ws) (h1 : 0 ≤ s) (h2 : s ≤ 10000) : f_by_walks [.lst (ws.map twoD), .int s] = .ok (.int (byw ws s)) := by
  have c : gComp (gIter (gVar 0)) (.tup [2, 3]) [2, 3] gYes (gBin dMul (gVar 3) (gCall fMin2 (VL.gCons (gVar 2) (VL.gCons (gVar 1) VL.gNil)))) [some (.lst (ws.map twoD)), some (.int s), none, none] = .ok (.lst (ws.map fun w => D.int (w.2 * (if s < w.1 then s else w.1)))) :=
    gComp_map (F := twoD) rfl fun w hw => by
      have w1 := h w hw
      have m : mulOk w.2 (if s < w.1 then s else w.1) = true := mulOk_right (by split <;> omega) (by split <;> omega)
      simp [gTurn, twoD, m]
  simp [f_by_walks, m_by_walks, c, fSum_map, byw]
theorem addL_posi {ps : List (Int × Int)} (h : Posi ps) (ws : List (Int × Int)) : Posi (addL ps ws) := fun p hp => by
  obtain ⟨q, hq, rfl⟩ := List.mem_map.mp hp
  exact h q hq
theorem addL_weight (ps ws : List (Int × Int)) : weight (addL ps ws) = weight ps := by
  unfold weight addL
  rw [List.map_map]
  rfl
theorem added_to_ok (ps ws : List (Int × Int)) (h : Walks ws) (hp : Posi ps) (hw : weight ps ≤ 10000) : f_added_to [.lst (ps.map twoD), .lst (ws.map twoD)] = .ok (.lst ((sortBy ltII (addL ps ws)).map twoD)) := by
  have c : gComp (gIter (gVar 0)) (.tup [2, 3]) [2, 3] gYes (gTup (VL.gCons (gVar 2) (VL.gCons (gBin dAdd (gVar 3) (gCall f_by_walks (VL.gCons (gVar 1) (VL.gCons (gVar 2) VL.gNil)))) VL.gNil))) [some (.lst (ps.map twoD)), some (.lst (ws.map twoD)), none, none] = .ok (.lst (ps.map fun p => twoD (p.1, p.2 + byw ws p.1))) :=
    gComp_map (F := twoD) rfl fun p m => by
      have e := by_walks_ok ws p.1 h (by have := hp p m; omega) (by have := size_le m hp; omega)
      simp [gTurn, twoD, e]
  have e : (ps.map fun p => twoD (p.1, p.2 + byw ws p.1)) = (addL ps ws).map twoD := by unfold addL; rw [List.map_map]; rfl
  rw [e] at c
  have s := fSorted_two (addL ps ws)
  generalize (addL ps ws).map twoD = aa at *
  simp [f_added_to, m_added_to, c, s]

theorem walks_badW' {ws : List (Int × Int)} (h : Walks ws) : badW ws = false := by
  cases q : badW ws with
  | false => rfl
  | true =>
    obtain ⟨w, hw, e⟩ := List.any_eq_true.mp q
    have := h w hw
    simp at e
    omega
theorem addL_perm {ps qs : List (Int × Int)} (h : ps.Perm qs) (ws : List (Int × Int)) : (addL ps ws).Perm (addL qs ws) := h.map _
def topP (ps : List (Int × Int)) : Int := lmax (ps.map (vac ps))
def shortest (ps : List (Int × Int)) (q : Int) : Int := lmin (ripes ps q)
def rest (ps : List (Int × Int)) (p : Int) : List (Int × Int) := ps.erase (shortest ps p, p - 2 * share ps (shortest ps p))
def shrink (ps : List (Int × Int)) (p : Int) : List (Int × Int) :=
  if 1 < shortest ps p then rest ps p ++ [(shortest ps p - 1, p - 1 - 2 * (share (rest ps p) (shortest ps p - 1) + shortest ps p - 1))] else rest ps p
/-- the stones of a list, the last one first -/
def stonesD : Nat → List (Int × Int) → List Int
  | 0, _ => []
  | n + 1, ps => if ps = [] then [] else topP ps :: stonesD n (shrink ps (topP ps))
def stones (ps : List (Int × Int)) : List Int := (stonesD (weight ps) ps).reverse
/-- the trains in the order in which they came -/
def heap (r : List Int) : List (Int × Int) := r.foldl grow []
def farR (r : List Int) (ws : List (Int × Int)) : List Int := stones (addL (heap r) ws)
theorem look_loop (r : List Int) (h : Rising r) : ∀ (n k : Nat) (a : Option D), 1 ≤ k → k + n ≤ r.length → ∃ a', forL (.one 1) b_look_row_1 ((List.range' k n).map fun (i : Nat) => D.int i) [some (.lst (r.map D.int)), a] = .nx [some (.lst (r.map D.int)), a']
  | 0, k, a, _, _ => ⟨a, rfl⟩
  | n + 1, k, a, h1, h2 => by
    obtain ⟨a', e⟩ := look_loop r h n (k + 1) (some (.int (k : Int))) (by omega) (by omega)
    refine ⟨a', ?_⟩
    have lt : r[k - 1] < r[k] := List.pairwise_iff_getElem.mp h (k - 1) k (by omega) (by omega) (by omega)
    have e1 := int_in (l := r) (i := k) (by omega) (j := (k : Int)) rfl
    have e2 := int_in (l := r) (i := k - 1) (by omega) (j := (k : Int) - 1) (by omega)
    have nle : ¬ r[k] ≤ r[k - 1] := by omega
    generalize r[k] = x at *
    generalize r[k - 1] = y at *
    have b : b_look_row_1 [some (.lst (r.map D.int)), some (.int (k : Int))] = .nx [some (.lst (r.map D.int)), some (.int (k : Int))] := by
      simp [b_look_row_1, e1, e2, nle, -dIdx]
    rw [List.range'_succ, List.map_cons, ← e]
    show (match b_look_row_1 [some (.lst (r.map D.int)), some (.int (k : Int))] with
      | .nx r' => forL (.one 1) b_look_row_1 ((List.range' (k + 1) n).map fun (i : Nat) => D.int i) r'
      | o => o) = _
    rw [b]
theorem look_row_ok (r : List Int) (h : Rising r) (hl : r.length ≤ 60) : f_look_row [.lst (r.map D.int)] = .ok .non := by
  have d : dRange2 (.int 1) (.int (r.length : Int)) = _ := dRange2_gen 1 r.length (by decide) (by omega)
  have c : ¬ (60 : Int) < (r.length : Int) := by omega
  by_cases z : r.length = 0
  · have z' : r = [] := List.length_eq_zero_iff.mp z
    subst z'
    have d' : dRange2 (.int 1) (.int 0) = .ok [] := d
    simp [f_look_row, m_look_row, d', forL]
  · obtain ⟨a', e⟩ := look_loop r h (r.length - 1) 1 none (by omega) (by omega)
    generalize (List.range' 1 (r.length - 1)).map (fun (i : Nat) => D.int i) = rr at *
    simp [f_look_row, m_look_row, d, e, c]
theorem lmax_perm {l m : List Int} (h : l.Perm m) : lmax l = lmax m := by
  by_cases e : l = []
  · subst e
    rw [List.nil_perm.mp h]
  · have e' : m ≠ [] := fun z => by subst z; exact e (List.perm_nil.mp h)
    exact Int.le_antisymm (lmax_le (h.mem_iff.mp (lmax_mem e))) (lmax_le (h.mem_iff.mpr (lmax_mem e')))
theorem topP_perm {ps qs : List (Int × Int)} (h : ps.Perm qs) : topP ps = topP qs := by
  unfold topP
  have e : vac ps = vac qs := by
    funext p
    unfold vac
    rw [share_perm h]
  rw [e]
  exact lmax_perm (h.map _)
theorem ripes_perm {ps qs : List (Int × Int)} (h : ps.Perm qs) (q : Int) : (ripes ps q).Perm (ripes qs q) := by
  unfold ripes
  have e : (fun p => vac ps p == q) = fun p => vac qs p == q := by
    funext p
    unfold vac
    rw [share_perm h]
  rw [e]
  exact (h.filter _).map _
theorem lmin_mem : ∀ {l : List Int}, l ≠ [] → lmin l ∈ l
  | [], h => absurd rfl h
  | [x], _ => by simp [lmin]
  | x :: y :: r, _ => by
    have ih := lmin_mem (l := y :: r) (by simp)
    unfold lmin
    rcases Int.le_total x (lmin (y :: r)) with h | h
    · rw [Int.min_eq_left h]; exact List.mem_cons_self
    · rw [Int.min_eq_right h]; exact List.mem_cons_of_mem _ ih
theorem lmin_le : ∀ {l : List Int} {x : Int}, x ∈ l → lmin l ≤ x
  | [], _, h => by cases h
  | [y], x, h => by
    have : x = y := by simpa using h
    subst this
    exact Int.le_refl _
  | y :: z :: r, x, h => by
    unfold lmin
    rcases List.mem_cons.mp h with e | h
    · subst e; exact Int.min_le_left _ _
    · exact Int.le_trans (Int.min_le_right _ _) (lmin_le h)

theorem lmin_perm {l m : List Int} (h : l.Perm m) : lmin l = lmin m := by
  by_cases e : l = []
  · subst e
    rw [List.nil_perm.mp h]
  · have e' : m ≠ [] := fun z => by subst z; exact e (List.perm_nil.mp h)
    exact Int.le_antisymm (lmin_le (h.mem_iff.mpr (lmin_mem e'))) (lmin_le (h.mem_iff.mp (lmin_mem e)))
theorem shortest_perm {ps qs : List (Int × Int)} (h : ps.Perm qs) (q : Int) : shortest ps q = shortest qs q := lmin_perm (ripes_perm h q)
theorem rest_perm {ps qs : List (Int × Int)} (h : ps.Perm qs) (p : Int) : (rest ps p).Perm (rest qs p) := by
  unfold rest
  rw [shortest_perm h, share_perm h]
  exact h.erase _
theorem shrink_perm {ps qs : List (Int × Int)} (h : ps.Perm qs) (p : Int) : (shrink ps p).Perm (shrink qs p) := by
  have r := rest_perm h p
  unfold shrink
  rw [shortest_perm h, share_perm r]
  by_cases c : 1 < shortest qs p
  · rw [if_pos c, if_pos c]
    exact List.Perm.append_right _ r
  · rw [if_neg c, if_neg c]
    exact r
theorem stones_perm : ∀ (n : Nat) {ps qs : List (Int × Int)}, ps.Perm qs → stonesD n ps = stonesD n qs
  | 0, _, _, _ => rfl
  | n + 1, ps, qs, h => by
    unfold stonesD
    by_cases e : ps = []
    · have e' : qs = [] := by subst e; exact List.nil_perm.mp h
      rw [if_pos e, if_pos e']
    · have e' : qs ≠ [] := fun z => by subst z; exact e (List.perm_nil.mp h)
      rw [if_neg e, if_neg e', topP_perm h, stones_perm n (shrink_perm h _)]
theorem stones_perm_eq {ps qs : List (Int × Int)} (h : ps.Perm qs) : stones ps = stones qs := by
  unfold stones
  rw [weight_perm h, stones_perm _ h]
theorem grow_posi {ps : List (Int × Int)} (h : Posi ps) (q : Int) : Posi (grow ps q) := by
  have l0 : 0 ≤ longest ps (q - 1) := by
    unfold longest
    split
    · exact Int.le_refl _
    · rename_i n
      have := h _ (mem_ripes.mp (lmax_mem n))
      have : 1 ≤ lmax (ripes ps (q - 1)) := this
      omega
  intro p hp
  unfold grow at hp
  rcases List.mem_append.mp hp with z | z
  · split at z
    · exact h p (List.mem_of_mem_erase z)
    · exact h p z
  · have : p = _ := List.mem_singleton.mp z
    rw [this]
    show 1 ≤ longest ps (q - 1) + 1
    omega
theorem share_ok (ps : List (Int × Int)) (s : Int) : f_share [.lst (ps.map twoD), .int s] = .ok (.int (share ps s)) := by
  have c : gComp (gIter (gVar 0)) (.tup [2, 3]) [2, 3] gYes (gCall fMin2 (VL.gCons (gVar 1) (VL.gCons (gVar 2) VL.gNil))) [some (.lst (ps.map twoD)), some (.int s), none, none] = .ok (.lst (ps.map fun p => D.int (if p.1 < s then p.1 else s))) :=
    gComp_map (F := twoD) rfl fun p _ => by simp [gTurn, twoD]
  simp [f_share, m_share, c, fSum_map, share]
theorem mark_ok (ps : List (Int × Int)) (s p : Int) : f_mark [.lst (ps.map twoD), .int s, .int p] = .ok (.int (p - 2 * share ps s)) := by
  have m : mulOk 2 (share ps s) = true := mulOk_left (by decide) (by decide)
  simp [f_mark, m_mark, share_ok, m]

theorem longest_of {ps : List (Int × Int)} {q s : Int} (h : s ∈ ripes ps q) (k : ∀ t ∈ ripes ps q, t ≤ s) : longest ps q = s := by
  have n : ripes ps q ≠ [] := fun z => by rw [z] at h; cases h
  unfold longest
  rw [if_neg n]
  exact (lmax_of h k).symm
theorem longest_none {ps : List (Int × Int)} {q : Int} (h : ∀ t, t ∉ ripes ps q) : longest ps q = 0 := by
  unfold longest
  rw [if_pos (List.eq_nil_iff_forall_not_mem.mpr h)]
theorem fold_longest (ps : List (Int × Int)) (q : Int) : ∀ (l : List (Int × Int)) (b : Int), let m := l.foldl (fun (b : Int) (p : Int × Int) => if b < p.1 ∧ vac ps p = q then p.1 else b) b
    (m = b ∨ ∃ p ∈ l, vac ps p = q ∧ p.1 = m) ∧ b ≤ m ∧ ∀ p ∈ l, vac ps p = q → p.1 ≤ m
  | [], b => ⟨.inl rfl, Int.le_refl _, fun p hp => nomatch hp⟩
  | x :: l, b => by
    obtain ⟨h1, h2, h3⟩ := fold_longest ps q l (if b < x.1 ∧ vac ps x = q then x.1 else b)
    rw [List.foldl_cons]
    generalize l.foldl (fun (b : Int) (p : Int × Int) => if b < p.1 ∧ vac ps p = q then p.1 else b) (if b < x.1 ∧ vac ps x = q then x.1 else b) = m at *
    by_cases c : b < x.1 ∧ vac ps x = q
    · rw [if_pos c] at h1 h2
      refine ⟨?_, by omega, fun p hp v => ?_⟩
      · rcases h1 with z | ⟨p, hp, z⟩
        · exact .inr ⟨x, List.mem_cons_self, c.2, z.symm⟩
        · exact .inr ⟨p, List.mem_cons_of_mem _ hp, z⟩
      · rcases List.mem_cons.mp hp with z | z
        · rw [z]; exact h2
        · exact h3 p z v
    · rw [if_neg c] at h1 h2
      refine ⟨?_, h2, fun p hp v => ?_⟩
      · rcases h1 with z | ⟨p, hp, z⟩
        · exact .inl z
        · exact .inr ⟨p, List.mem_cons_of_mem _ hp, z⟩
      · rcases List.mem_cons.mp hp with z | z
        · subst z
          have : ¬ b < p.1 := fun w => c ⟨w, v⟩
          omega
        · exact h3 p z v
theorem fold_is_longest {ps : List (Int × Int)} (h : Posi ps) (q : Int) : ps.foldl (fun (b : Int) (p : Int × Int) => if b < p.1 ∧ vac ps p = q then p.1 else b) 0 = longest ps q := by
  obtain ⟨h1, h2, h3⟩ := fold_longest ps q ps 0
  generalize ps.foldl (fun (b : Int) (p : Int × Int) => if b < p.1 ∧ vac ps p = q then p.1 else b) 0 = m at *
  have k : ∀ t ∈ ripes ps q, t ≤ m := fun t ht => by
    have := h3 _ (mem_ripes.mp ht) (by unfold vac; show q - 2 * share ps t + 2 * share ps t = q; omega)
    exact this
  rcases h1 with z | ⟨p, hp, v, e⟩
  · refine (longest_none fun t ht => ?_).symm ▸ z
    have a := k t ht
    have b := h _ (mem_ripes.mp ht)
    have b' : 1 ≤ t := b
    omega
  · exact (longest_of (List.mem_map.mpr ⟨p, List.mem_filter.mpr ⟨hp, by simpa using v⟩, e⟩) k).symm
theorem vac_iff (ps : List (Int × Int)) (p : Int × Int) (q : Int) : p.2 = q - 2 * share ps p.1 ↔ vac ps p = q := by
  unfold vac
  omega
theorem longest_ripe_ok (ps : List (Int × Int)) (q : Int) (h : Posi ps) : f_longest_ripe [.lst (ps.map twoD), .int q] = .ok (.int (longest ps q)) := by
  obtain ⟨r', e, a, b, hr⟩ := forL_fold twoD (fun (b : Int) (p : Int × Int) => if b < p.1 ∧ vac ps p = q then p.1 else b) (fun b r => ∃ x y, r = [some (.lst (ps.map twoD)), some (.int q), some (.int b), x, y]) (.tup [3, 4]) b_longest_ripe_1 ps 0 [some (.lst (ps.map twoD)), some (.int q), some (.int 0), none, none] ⟨none, none, rfl⟩ (fun p _ b r ⟨x, y, e⟩ => by
    subst e
    refine ⟨[.int p.1, .int p.2], _, rfl, ?_, ⟨some (.int p.1), some (.int p.2), rfl⟩⟩
    have v := vac_iff ps p q
    by_cases c1 : b < p.1 <;> by_cases c2 : p.2 = q - 2 * share ps p.1
    · simp [b_longest_ripe_1, mark_ok, c1, c2, v.mp c2]
    · have c3 : ¬ vac ps p = q := fun z => c2 (v.mpr z)
      simp [b_longest_ripe_1, mark_ok, c1, c2, c3]
    · simp [b_longest_ripe_1, mark_ok, c1]
    · simp [b_longest_ripe_1, mark_ok, c1])
  subst hr
  rw [fold_is_longest h] at e
  simp [f_longest_ripe, m_longest_ripe, e]
theorem grown_ok (ps : List (Int × Int)) (p : Int) (h : Posi ps) (hz : ps.length < 1000) : f_grown [.lst (ps.map twoD), .int p] = .ok (.lst ((grow ps p).map twoD)) := by
  have e1 := longest_ripe_ok ps (p - 1) h
  have m2 : ∀ x : Int, mulOk 2 x = true := fun x => mulOk_left (by decide) (by decide)
  by_cases c : 0 < longest ps (p - 1)
  · have rm := remL_ok (x := (longest ps (p - 1), p - 1 - 2 * share ps (longest ps (p - 1)))) (longest_mem c) (le_szL (by omega))
    have l1 : (ps.erase (longest ps (p - 1), p - 1 - 2 * share ps (longest ps (p - 1)))).length < szL := lt_szL (Nat.lt_of_le_of_lt List.length_erase_le (by omega))
    unfold grow
    rw [if_pos c]
    generalize longest ps (p - 1) = s at *
    generalize ps.erase (s, p - 1 - 2 * share ps s) = fr at *
    rw [← app_pair]
    simp [f_grown, m_grown, e1, c, mark_ok, rm, share_ok, m2, l1]
  · have l1 : ps.length < szL := lt_szL (by omega)
    unfold grow
    rw [if_neg c]
    generalize longest ps (p - 1) = s at *
    rw [← app_pair]
    simp [f_grown, m_grown, e1, c, mark_ok, share_ok, m2, l1]
theorem grow_len (ps : List (Int × Int)) (p : Int) : (grow ps p).length ≤ ps.length + 1 := by
  unfold grow
  rw [List.length_append]
  have : (if 0 < longest ps (p - 1) then ps.erase (longest ps (p - 1), p - 1 - 2 * share ps (longest ps (p - 1))) else ps).length ≤ ps.length := by
    split
    · exact List.length_erase_le
    · exact Nat.le_refl _
  simp
  omega
def lists (r : List Int) : List (Int × Int) := sortBy ltII (heap r)
theorem heap_sorted (r : List Int) : fSorted [.lst ((heap r).map twoD)] = .ok (.lst ((lists r).map twoD)) := fSorted_two _

theorem list_of_ok (r : List Int) (hl : r.length ≤ 500) : f_list_of [.lst (r.map D.int)] = .ok (.lst ((lists r).map twoD)) := by
  obtain ⟨r', e, _, _, a, hr⟩ := forL_foldI D.int grow (fun n s t => Posi s ∧ s.length ≤ n ∧ ∃ x, t = [some (.lst (r.map D.int)), some (.lst (s.map twoD)), x]) (.one 2) b_list_of_1 r 0 [] [some (.lst (r.map D.int)), some (.lst []), none] ⟨fun p hp => (nomatch hp), by simp, none, rfl⟩ (fun i p hi hp s t ⟨h1, h2, x, e⟩ => by
    subst e
    refine ⟨[.int p], _, rfl, ?_, ⟨grow_posi h1 p, by have := grow_len s p; omega, some (.int p), rfl⟩⟩
    simp [b_list_of_1, grown_ok s p h1 (by omega)])
  subst hr
  have hs : fSorted [.lst ((r.foldl grow []).map twoD)] = _ := heap_sorted r
  simp [f_list_of, m_list_of, e, hs]

theorem grows_len : ∀ (r : List Int) (ps : List (Int × Int)), (r.foldl grow ps).length ≤ ps.length + r.length
  | [], _ => Nat.le_refl _
  | p :: r, ps => by
    have a := grows_len r (grow ps p)
    have b := grow_len ps p
    simp
    omega
theorem lists_len (r : List Int) : (lists r).length ≤ r.length := by
  have a := grows_len r []
  have b := (sortBy_perm (lt := ltII) (heap r)).length_eq
  unfold lists
  rw [b]
  exact Nat.le_trans a (by simp)
theorem shrink_posi {ps : List (Int × Int)} (h : Posi ps) (q : Int) : Posi (shrink ps q) := by
  have hr : Posi (rest ps q) := fun p hp => h p (List.mem_of_mem_erase hp)
  unfold shrink
  split
  · intro p hp
    rcases List.mem_append.mp hp with z | z
    · exact hr p z
    · have : p = _ := List.mem_singleton.mp z
      rw [this]
      show 1 ≤ shortest ps q - 1
      omega
  · exact hr
/-- the shortest train that is ripe at the greatest place -/
theorem top_some {ps : List (Int × Int)} (n : ps ≠ []) : ripes ps (topP ps) ≠ [] := by
  have m : ps.map (vac ps) ≠ [] := by simpa using n
  obtain ⟨p, hp, e⟩ := List.mem_map.mp (lmax_mem m)
  intro z
  have : p.1 ∈ ripes ps (topP ps) := List.mem_map.mpr ⟨p, List.mem_filter.mpr ⟨hp, by
    show (vac ps p == topP ps) = true
    rw [e]
    simp [topP]⟩, rfl⟩
  rw [z] at this
  cases this
theorem short_mem {ps : List (Int × Int)} (n : ps ≠ []) : (shortest ps (topP ps), topP ps - 2 * share ps (shortest ps (topP ps))) ∈ ps := mem_ripes.mp (lmin_mem (top_some n))
theorem rest_cons {ps : List (Int × Int)} (n : ps ≠ []) : ps.Perm ((shortest ps (topP ps), topP ps - 2 * share ps (shortest ps (topP ps))) :: rest ps (topP ps)) := List.perm_cons_erase (short_mem n)
theorem short_pos {ps : List (Int × Int)} (n : ps ≠ []) (h : Posi ps) : 1 ≤ shortest ps (topP ps) := h _ (short_mem n)
theorem weight_shrink {ps : List (Int × Int)} (n : ps ≠ []) (h : Posi ps) : weight (shrink ps (topP ps)) + 1 = weight ps := by
  have hj := short_pos n h
  have w := weight_perm (rest_cons n)
  unfold shrink
  generalize topP ps = t at *
  generalize hjj : shortest ps t = j at *
  have w' : weight ps = j.toNat + weight (rest ps t) := by rw [w]; simp [weight]
  split
  · simp [weight] at *
    omega
  · omega
theorem stonesD_succ (n : Nat) (ps : List (Int × Int)) : stonesD (n + 1) ps = if ps = [] then [] else topP ps :: stonesD n (shrink ps (topP ps)) := rfl
theorem weight_zero {ps : List (Int × Int)} (h : Posi ps) (w : weight ps = 0) : ps = [] := by
  cases ps with
  | nil => rfl
  | cons p r =>
    have := h p List.mem_cons_self
    simp [weight] at w
    omega
theorem fMax1_ints {l : List Int} (n : l ≠ []) : fMax1 [.lst (l.map D.int)] = .ok (.int (lmax l)) := by
  dsimp only [fMax1]
  rw [intsOf_map]
  dsimp only
  rw [if_neg n]
theorem next_place_ok (ps : List (Int × Int)) (n : ps ≠ []) : f_next_place [.lst (ps.map twoD)] = .ok (.int (topP ps)) := by
  have c : gComp (gIter (gVar 0)) (.tup [1, 2]) [1, 2] gYes (gBin dAdd (gVar 2) (gBin dMul (gC (.int 2)) (gCall f_share (VL.gCons (gVar 0) (VL.gCons (gVar 1) VL.gNil))))) [some (.lst (ps.map twoD)), none, none] = .ok (.lst (ps.map fun p => D.int (vac ps p))) :=
    gComp_map (F := twoD) rfl fun p _ => by simp [gTurn, twoD, share_ok, mul2, vac]
  have e : (ps.map fun p => D.int (vac ps p)) = (ps.map (vac ps)).map D.int := by rw [List.map_map]; rfl
  rw [e] at c
  have m := fMax1_ints (l := ps.map (vac ps)) (by simpa using n)
  generalize (ps.map (vac ps)).map D.int = vv at *
  simp [f_next_place, m_next_place, c, m, topP]
theorem shrink_len (ps : List (Int × Int)) (n : ps ≠ []) : (shrink ps (topP ps)).length ≤ ps.length := by
  have r : (rest ps (topP ps)).length + 1 = ps.length := (rest_cons n).length_eq.symm
  unfold shrink
  split
  · simp; omega
  · omega
theorem fMin1_ints {l : List Int} (n : l ≠ []) : fMin1 [.lst (l.map D.int)] = .ok (.int (lmin l)) := by
  dsimp only [fMin1]
  rw [intsOf_map]
  dsimp only
  rw [if_neg n]
theorem shortest_ripe_ok (ps : List (Int × Int)) (q : Int) (n : ripes ps q ≠ []) : f_shortest_ripe [.lst (ps.map twoD), .int q] = .ok (.int (shortest ps q)) := by
  have c := gComp_filter (gi := gIter (gVar 0)) (t := .tup [2, 3]) (vs := [2, 3]) (tt := gTest (gBin dEq (gVar 3) (gCall f_mark (VL.gCons (gVar 0) (VL.gCons (gVar 2) (VL.gCons (gVar 1) VL.gNil)))))) (ge := gVar 2)
    (r := [some (.lst (ps.map twoD)), some (.int q), none, none]) (l := ps) (F := twoD) (p := fun p => vac ps p == q) (G := fun p => D.int p.1) rfl (fun p _ => by
      have v := vac_iff ps p q
      by_cases c : p.2 = q - 2 * share ps p.1
      · simp [gTurn, twoD, mark_ok, c, v.mp c]
      · have c3 : ¬ vac ps p = q := fun z => c (v.mpr z)
        simp [gTurn, twoD, mark_ok, c, c3])
  have e : ((ps.filter fun p => vac ps p == q).map fun p => D.int p.1) = (ripes ps q).map D.int := by unfold ripes; rw [List.map_map]; rfl
  rw [e] at c
  have m := fMin1_ints n
  generalize (ripes ps q).map D.int = vv at *
  simp [f_shortest_ripe, m_shortest_ripe, c, m, shortest]
theorem shrunk_ok (ps : List (Int × Int)) (n : ps ≠ []) (hz : ps.length < 1000) : f_shrunk [.lst (ps.map twoD), .int (topP ps)] = .ok (.lst ((shrink ps (topP ps)).map twoD)) := by
  have e1 := shortest_ripe_ok ps (topP ps) (top_some n)
  have rm := remL_ok (x := (shortest ps (topP ps), topP ps - 2 * share ps (shortest ps (topP ps)))) (short_mem n) (le_szL (by omega))
  have l1 : (rest ps (topP ps)).length < szL := lt_szL (Nat.lt_of_le_of_lt List.length_erase_le (by omega))
  unfold shrink
  unfold rest at *
  generalize topP ps = t at *
  generalize shortest ps t = s at *
  generalize ps.erase (s, t - 2 * share ps s) = fr at *
  by_cases c : 1 < s
  · rw [if_pos c, ← app_pair]
    simp [f_shrunk, m_shrunk, e1, c, mark_ok, rm, share_ok, mul2, l1]
  · rw [if_neg c]
    simp [f_shrunk, m_shrunk, e1, c, mark_ok, rm]
theorem stones_loop : ∀ (n : Nat) (m : Nat) (ps : List (Int × Int)) (acc : List Int) (x : Option D), Posi ps → weight ps ≤ n → ps.length ≤ 900 → n < m → acc.length + n ≤ 10000 →
    ∃ x', whileL (gTest (gBin dNe (gVar 0) (gLst VL.gNil))) b_stones_of_1 m [some (.lst (ps.map twoD)), some (.lst (acc.map D.int)), x] = .nx [some (.lst []), some (.lst ((acc ++ stonesD n ps).map D.int)), x']
  | n, 0, _, _, _, _, _, _, h, _ => by omega
  | 0, m + 1, ps, acc, x, hp, w, hl, _, _ => by
    have e := weight_zero hp (by omega)
    subst e
    refine ⟨x, ?_⟩
    have t := ne_nil_two [] (by decide)
    have t' : dNe (.lst []) (.lst []) = .ok (.bl false) := t
    rw [whileL_fin (by simp [t'])]
    simp [stonesD]
  | n + 1, m + 1, ps, acc, x, hp, w, hl, hm, ha => by
    have t := ne_nil_two ps (by omega)
    by_cases e : ps = []
    · subst e
      have t' : dNe (.lst []) (.lst []) = .ok (.bl false) := t
      refine ⟨x, ?_⟩
      rw [whileL_fin (by simp [t'])]
      simp [stonesD]
    · have e1 := next_place_ok ps e
      have e2 := shrunk_ok ps e (by omega)
      have ws := weight_shrink e hp
      have sl := shrink_len ps e
      obtain ⟨x', ih⟩ := stones_loop n m (shrink ps (topP ps)) (acc ++ [topP ps]) (some (.int (topP ps))) (shrink_posi hp _) (by omega) (by omega) (by omega) (by simp; omega)
      refine ⟨x', ?_⟩
      have lz : acc.length < szL := lt_szL (by omega)
      rw [whileL_turn (r' := [some (.lst ((shrink ps (topP ps)).map twoD)), some (.lst ((acc ++ [topP ps]).map D.int)), some (.int (topP ps))]) (by simp [t, e]) (by simp [b_stones_of_1, e1, e2, lz]), ih]
      rw [stonesD_succ, if_neg e, List.append_assoc]
      rfl
theorem stones_of_ok (ps : List (Int × Int)) (h : Posi ps) (w : weight ps ≤ 5000) (hl : ps.length ≤ 900) : f_stones_of [.lst (ps.map twoD)] = .ok (.lst ((stones ps).map D.int)) := by
  obtain ⟨x, e⟩ := stones_loop (weight ps) WB ps [] none h (Nat.le_refl _) hl (by rw [WB_eq]; omega) (by simp; omega)
  rw [List.nil_append] at e
  have e' : whileL (gTest (gBin dNe (gVar 0) (gLst VL.gNil))) b_stones_of_1 WB [some (.lst (ps.map twoD)), some (.lst []), none] = _ := e
  simp [f_stones_of, m_stones_of, e', stones, List.map_reverse]

theorem grows_posi : ∀ (r : List Int) {ps : List (Int × Int)}, Posi ps → Posi (r.foldl grow ps)
  | [], _, h => h
  | p :: r, _, h => grows_posi r (grow_posi h p)
theorem lists_posi (r : List Int) : Posi (lists r) := fun p hp => grows_posi r (ps := []) (fun p hp => (nomatch hp)) p ((sortBy_perm _).mem_iff.mp hp)
theorem weight_app (ps qs : List (Int × Int)) : weight (ps ++ qs) = weight ps + weight qs := by simp [weight]

theorem weight_grow {ps : List (Int × Int)} (h : Posi ps) (p : Int) : weight (grow ps p) = weight ps + 1 := by
  have n0 := longest_nonneg h (p - 1)
  unfold grow
  rw [weight_app]
  by_cases c : 0 < longest ps (p - 1)
  · rw [if_pos c]
    have w := weight_perm (List.perm_cons_erase (longest_mem c))
    generalize longest ps (p - 1) = s at *
    generalize ps.erase (s, p - 1 - 2 * share ps s) = fr at *
    simp [weight] at *
    omega
  · rw [if_neg c]
    have z : longest ps (p - 1) = 0 := by omega
    rw [z]
    simp [weight]
theorem weight_grows : ∀ (r : List Int) {ps : List (Int × Int)}, Posi ps → weight (r.foldl grow ps) = weight ps + r.length
  | [], _, _ => rfl
  | p :: r, ps, h => by
    rw [List.foldl_cons, weight_grows r (grow_posi h p), weight_grow h p, List.length_cons]
    omega
theorem lists_weight (r : List Int) : weight (lists r) = r.length := by
  unfold lists heap
  rw [weight_perm (sortBy_perm _), weight_grows r (ps := []) (fun p hp => (nomatch hp))]
  simp [weight]
theorem far_ok (r : List Int) (ws : List (Int × Int)) (hr : Rising r) (hl : r.length ≤ 60) (hw : Walks ws) : f_far [.lst (r.map D.int), .lst (ws.map twoD)] = .ok (.lst ((farR r ws).map D.int)) := by
  have a := look_row_ok r hr hl
  have b := look_walks_any ws
  rw [walks_badW' hw, if_neg (by simp)] at b
  have l1 := list_of_ok r (by omega)
  have po := lists_posi r
  have we := lists_weight r
  have ll := lists_len r
  have l2 := added_to_ok (lists r) ws hw po (by omega)
  have sp := sortBy_perm (lt := ltII) (addL (lists r) ws)
  have l3 := stones_of_ok (sortBy ltII (addL (lists r) ws)) (fun p hp => addL_posi po ws p (sp.mem_iff.mp hp)) (by rw [weight_perm sp, addL_weight]; omega) (by rw [sp.length_eq]; unfold addL; rw [List.length_map]; omega)
  unfold farR
  rw [stones_perm_eq (sp.trans (addL_perm (sortBy_perm (heap r)) ws))] at l3
  simp [f_far, m_far, a, b, l1, l2, l3]
theorem vac_le {ps : List (Int × Int)} {p : Int × Int} (h : p ∈ ps) : vac ps p ≤ topP ps := lmax_le (List.mem_map.mpr ⟨p, h, rfl⟩)
theorem short_le {ps : List (Int × Int)} {q : Int} {p : Int × Int} (h : p ∈ ps) (e : vac ps p = q) : shortest ps q ≤ p.1 := by
  refine lmin_le (List.mem_map.mpr ⟨p, List.mem_filter.mpr ⟨h, ?_⟩, rfl⟩)
  simpa using e
/-- behind the last stone taken out all are ripe further back -/
theorem shrink_vac {ps : List (Int × Int)} (n : ps ≠ []) (h : Posi ps) : ∀ z ∈ shrink ps (topP ps), vac (shrink ps (topP ps)) z ≤ topP ps - 1 ∧ (vac (shrink ps (topP ps)) z = topP ps - 1 → z.1 ≤ shortest ps (topP ps) - 1) := by
  have hj := short_pos n h
  have pc := rest_cons n
  have sh := fun s => share_perm pc s
  unfold shrink
  generalize ht : topP ps = t at *
  generalize hjj : shortest ps t = j at *
  generalize hr : rest ps t = r at *
  have memr : ∀ z ∈ r, z ∈ ps := fun z hz => pc.mem_iff.mpr (List.mem_cons_of_mem _ hz)
  split
  · rename_i c
    intro z hz
    have e : ∀ s, share (r ++ [(j - 1, t - 1 - 2 * (share r (j - 1) + j - 1))]) s = share r s + lsr (j - 1) s := fun s => by
      rw [share_app, share_cons]
      simp [share]
    unfold vac
    rw [e]
    rcases List.mem_append.mp hz with z1 | z1
    · have m := memr z z1
      have v := vac_le m
      have sl := fun q => short_le (q := q) m
      have hz1 := h z m
      have s1 := sh z.1
      rw [share_cons] at s1
      rw [ht] at v
      have sl := sl t
      rw [hjj] at sl
      unfold vac at v sl
      have a : lsr j z.1 = if j < z.1 then j else z.1 := rfl
      have b : lsr (j - 1) z.1 = if j - 1 < z.1 then j - 1 else z.1 := rfl
      have s1' : share ps z.1 = lsr j z.1 + share r z.1 := s1
      by_cases g : j ≤ z.1
      · have a' : lsr j z.1 = j := by rw [a]; split <;> omega
        have b' : lsr (j - 1) z.1 = j - 1 := by rw [b]; split <;> omega
        omega
      · have a' : lsr j z.1 = z.1 := by rw [a]; split <;> omega
        have b' : lsr (j - 1) z.1 = z.1 := by rw [b]; split <;> omega
        by_cases w : z.2 + 2 * share ps z.1 = t
        · have := sl w
          omega
        · omega
    · have : z = _ := List.mem_singleton.mp z1
      subst this
      have b : lsr (j - 1) (j - 1) = j - 1 := by unfold lsr; split <;> omega
      show t - 1 - 2 * (share r (j - 1) + j - 1) + 2 * (share r (j - 1) + lsr (j - 1) (j - 1)) ≤ t - 1 ∧ (_ → j - 1 ≤ j - 1)
      rw [b]
      exact ⟨by omega, fun _ => Int.le_refl _⟩
  · rename_i c
    intro z hz
    have m := memr z hz
    have v := vac_le m
    have hz1 := h z m
    have s1 := sh z.1
    rw [share_cons] at s1
    rw [ht] at v
    unfold vac at v ⊢
    have a' : lsr j z.1 = 1 := by unfold lsr; split <;> omega
    have s1' : share ps z.1 = lsr j z.1 + share r z.1 := s1
    omega
theorem topP_shrink {ps : List (Int × Int)} (n : ps ≠ []) (h : Posi ps) (m : shrink ps (topP ps) ≠ []) : topP (shrink ps (topP ps)) ≤ topP ps - 1 := by
  have q : (shrink ps (topP ps)).map (vac (shrink ps (topP ps))) ≠ [] := by simpa using m
  obtain ⟨p, hp, e⟩ := List.mem_map.mp (lmax_mem q)
  show lmax _ ≤ _
  rw [← e]
  exact (shrink_vac n h p hp).1
theorem Rc.le {N k : Nat} {a b : List Int} (h : Rc N a b) (l : k ≤ N) : k ≤ a.length ↔ k ≤ b.length := by
  rcases h with h | ⟨C, a', b', h1, h2, h3⟩
  · rw [h]
  · rw [h1, h2, List.length_append, List.length_append]
    omega
/-- joined runs alternate, none is empty, the first is full -/
structure Alt (L : List Run) : Prop where
  ne : ∀ p ∈ L, p.2 ≠ []
  hd : ∀ p, L.head? = some p → p.1 = true
  ch : ∀ (A B : List Run) (p q : Run), L = A ++ p :: q :: B → p.1 ≠ q.1
theorem Alt.nil : Alt [] := ⟨(fun p h => nomatch h), (fun p h => nomatch h), fun A B p q e => by
  have := congrArg List.length e
  simp at this⟩
theorem R1.nil {N : Nat} {p q : Run} (h : R1 N p q) (hN : 1 ≤ N) : p.2 = [] ↔ q.2 = [] := by
  have := h.2.2.le (k := 1) hN
  rw [← List.length_eq_zero_iff, ← List.length_eq_zero_iff]
  omega
theorem stones_lt : ∀ (n : Nat) {ps : List (Int × Int)}, Posi ps → (stonesD n ps).Pairwise (fun a b => b < a) ∧ ∀ x ∈ stonesD n ps, x ≤ topP ps
  | 0, ps, h => ⟨List.Pairwise.nil, fun x hx => nomatch hx⟩
  | n + 1, ps, h => by
    unfold stonesD
    by_cases e : ps = []
    · rw [if_pos e]
      exact ⟨List.Pairwise.nil, fun x hx => nomatch hx⟩
    · rw [if_neg e]
      obtain ⟨i1, i2⟩ := stones_lt n (shrink_posi h (topP ps))
      have k : ∀ x ∈ stonesD n (shrink ps (topP ps)), x ≤ topP ps - 1 := fun x hx => by
        have m : shrink ps (topP ps) ≠ [] := fun z => by
          rw [z] at hx
          cases n <;> simp [stonesD] at hx
        exact Int.le_trans (i2 x hx) (topP_shrink e h m)
      refine ⟨List.pairwise_cons.mpr ⟨fun x hx => by have := k x hx; omega, i1⟩, fun x hx => ?_⟩
      rcases List.mem_cons.mp hx with z | z
      · rw [z]; exact Int.le_refl _
      · have := k x z; omega
theorem stones_rising (ps : List (Int × Int)) (h : Posi ps) : Rising (stones ps) := by
  unfold stones Rising
  rw [List.pairwise_reverse]
  exact (stones_lt (weight ps) h).1

theorem heap_posi (r : List Int) : Posi (heap r) := grows_posi r (ps := []) (fun p hp => (nomatch hp))
theorem farR_rising (r : List Int) (ws : List (Int × Int)) : Rising (farR r ws) := stones_rising _ (addL_posi (heap_posi r) ws)
theorem longest_perm {ps qs : List (Int × Int)} (h : ps.Perm qs) (q : Int) : longest ps q = longest qs q := by
  have r := ripes_perm h q
  unfold longest
  by_cases e : ripes ps q = []
  · have e' : ripes qs q = [] := by rw [e] at r; exact List.nil_perm.mp r
    rw [if_pos e, if_pos e']
  · have e' : ripes qs q ≠ [] := fun z => by rw [z] at r; exact e (List.perm_nil.mp r)
    rw [if_neg e, if_neg e', lmax_perm r]
theorem grow_perm {ps qs : List (Int × Int)} (h : ps.Perm qs) (p : Int) : (grow ps p).Perm (grow qs p) := by
  unfold grow
  rw [longest_perm h, share_perm h]
  by_cases c : 0 < longest qs (p - 1)
  · rw [if_pos c, if_pos c, share_perm (h.erase _)]
    exact List.Perm.append_right _ (h.erase _)
  · rw [if_neg c, if_neg c, share_perm h]
    exact List.Perm.append_right _ h
/-- a stone taken out and put in again -/
theorem grow_shrink {ps : List (Int × Int)} (n : ps ≠ []) (h : Posi ps) : (grow (shrink ps (topP ps)) (topP ps)).Perm ps := by
  have hv := shrink_vac n h
  have hj := short_pos n h
  have pc := rest_cons n
  have sj := share_perm pc (shortest ps (topP ps))
  rw [share_cons] at sj
  generalize ht : topP ps = t at *
  generalize hjj : shortest ps t = j at *
  have b : lsr j j = j := by unfold lsr; split <;> omega
  have sj' : share ps j = j + share (rest ps t) j := by rw [sj]; show lsr j j + _ = _; rw [b]
  by_cases c : 1 < j
  · have es : shrink ps t = rest ps t ++ [(j - 1, t - 1 - 2 * (share (rest ps t) (j - 1) + j - 1))] := by
      unfold shrink
      rw [hjj, if_pos c]
    have e : ∀ s, share (shrink ps t) s = share (rest ps t) s + lsr (j - 1) s := fun s => by
      rw [es, share_app, share_cons]
      simp [share]
    have b1 : lsr (j - 1) (j - 1) = j - 1 := by unfold lsr; split <;> omega
    have ey : (j - 1, t - 1 - 2 * share (shrink ps t) (j - 1)) = (j - 1, t - 1 - 2 * (share (rest ps t) (j - 1) + j - 1)) := by
      rw [e, b1]
      refine Prod.ext rfl ?_
      show t - 1 - 2 * (share (rest ps t) (j - 1) + (j - 1)) = _
      omega
    have my : (j - 1, t - 1 - 2 * share (shrink ps t) (j - 1)) ∈ shrink ps t := by
      rw [ey, es]
      simp
    have lg : longest (shrink ps t) (t - 1) = j - 1 := longest_of (mem_ripes.mpr my) fun s hs => by
      have := (hv _ (mem_ripes.mp hs)).2
      unfold vac at this
      have := this (by show t - 1 - 2 * share (shrink ps t) s + 2 * share (shrink ps t) s = t - 1; omega)
      exact this
    have er : ((shrink ps t).erase (j - 1, t - 1 - 2 * share (shrink ps t) (j - 1))).Perm (rest ps t) := by
      rw [ey]
      have p1 : (shrink ps t).Perm ((j - 1, t - 1 - 2 * (share (rest ps t) (j - 1) + j - 1)) :: rest ps t) := by
        rw [es]
        exact List.perm_append_comm
      have p2 := p1.erase (j - 1, t - 1 - 2 * (share (rest ps t) (j - 1) + j - 1))
      rwa [List.erase_cons_head] at p2
    unfold grow
    rw [lg, if_pos (by omega), share_perm er]
    have ex : (j - 1 + 1, t - 2 * (share (rest ps t) (j - 1 + 1) + (j - 1) + 1)) = (j, t - 2 * share ps j) := by
      have q : j - 1 + 1 = j := by omega
      rw [q, sj']
      refine Prod.ext rfl ?_
      show t - 2 * (share (rest ps t) j + (j - 1) + 1) = t - 2 * (j + share (rest ps t) j)
      omega
    rw [ex]
    exact ((List.Perm.append_right _ er).trans List.perm_append_comm).trans pc.symm
  · have j1 : j = 1 := by omega
    have es : shrink ps t = rest ps t := by
      unfold shrink
      rw [hjj, if_neg c]
    have lg : longest (shrink ps t) (t - 1) = 0 := longest_none fun s hs => by
      have m := mem_ripes.mp hs
      have := (hv _ m).2 (by unfold vac; show t - 1 - 2 * share (shrink ps t) s + 2 * share (shrink ps t) s = t - 1; omega)
      have p := shrink_posi h t _ m
      have this' : s ≤ j - 1 := this
      have p' : 1 ≤ s := p
      omega
    unfold grow
    rw [lg, if_neg (by omega), es]
    have ex : ((0 : Int) + 1, t - 2 * (share (rest ps t) (0 + 1) + 0 + 1)) = (j, t - 2 * share ps j) := by
      rw [sj', j1]
      refine Prod.ext rfl ?_
      show t - 2 * (share (rest ps t) (0 + 1) + 0 + 1) = t - 2 * (1 + share (rest ps t) 1)
      rw [show (0 : Int) + 1 = 1 from rfl]
      omega
    rw [ex]
    exact List.perm_append_comm.trans pc.symm
theorem stones_grow : ∀ (n : Nat) {ps : List (Int × Int)}, Posi ps → weight ps ≤ n → ((stonesD n ps).reverse.foldl grow []).Perm ps
  | 0, ps, h, w => by
    rw [weight_zero h (by omega)]
    exact List.Perm.refl _
  | n + 1, ps, h, w => by
    unfold stonesD
    by_cases e : ps = []
    · rw [if_pos e, e]
      exact List.Perm.refl _
    · rw [if_neg e, List.reverse_cons, List.foldl_append]
      have ih := stones_grow n (shrink_posi h (topP ps)) (by have := weight_shrink e h; omega)
      exact (grow_perm ih _).trans (grow_shrink e h)
theorem heap_stones {ps : List (Int × Int)} (h : Posi ps) : (heap (stones ps)).Perm ps := stones_grow (weight ps) h (Nat.le_refl _)
theorem heap_far (r : List Int) (ws : List (Int × Int)) : (heap (farR r ws)).Perm (addL (heap r) ws) := heap_stones (addL_posi (heap_posi r) ws)
theorem grow_vac {ps : List (Int × Int)} (h : Posi ps) {p : Int} (hv : ∀ z ∈ ps, vac ps z ≤ p - 1) : ∀ z ∈ grow ps p, vac (grow ps p) z ≤ p := by
  have n0 := longest_nonneg h (p - 1)
  have big : ∀ z ∈ ps, vac ps z = p - 1 → z.1 ≤ longest ps (p - 1) := fun z hz e => by
    have m : z.1 ∈ ripes ps (p - 1) := List.mem_map.mpr ⟨z, List.mem_filter.mpr ⟨hz, by simpa using e⟩, rfl⟩
    have n : ripes ps (p - 1) ≠ [] := fun w => by rw [w] at m; cases m
    unfold longest
    rw [if_neg n]
    exact lmax_le m
  unfold grow
  by_cases c : 0 < longest ps (p - 1)
  · rw [if_pos c]
    have mm := longest_mem c
    have pc := List.perm_cons_erase mm
    generalize longest ps (p - 1) = s at *
    generalize hfr : ps.erase (s, p - 1 - 2 * share ps s) = fr at *
    have sh : ∀ t, share ps t = lsr s t + share fr t := fun t => by rw [share_perm pc, share_cons]
    intro z hz
    unfold vac
    have e : share (fr ++ [(s + 1, p - 2 * (share fr (s + 1) + s + 1))]) z.1 = share fr z.1 + lsr (s + 1) z.1 := by
      rw [share_app, share_cons]
      simp [share]
    rw [e]
    rcases List.mem_append.mp hz with m | m
    · have hz' : z ∈ ps := pc.mem_iff.mpr (List.mem_cons_of_mem _ m)
      have v := hv z hz'
      have b := big z hz'
      have s1 := sh z.1
      unfold vac at v b
      have a1 : lsr s z.1 = if s < z.1 then s else z.1 := rfl
      have a2 : lsr (s + 1) z.1 = if s + 1 < z.1 then s + 1 else z.1 := rfl
      by_cases g : s + 1 ≤ z.1
      · have a1' : lsr s z.1 = s := by rw [a1]; split <;> omega
        have a2' : lsr (s + 1) z.1 = s + 1 := by rw [a2]; split <;> omega
        by_cases w : z.2 + 2 * share ps z.1 = p - 1
        · have := b w
          omega
        · omega
      · have a1' : lsr s z.1 = z.1 := by rw [a1]; split <;> omega
        have a2' : lsr (s + 1) z.1 = z.1 := by rw [a2]; split <;> omega
        omega
    · have : z = _ := List.mem_singleton.mp m
      rw [this]
      have a2 : lsr (s + 1) (s + 1) = s + 1 := by unfold lsr; split <;> omega
      show p - 2 * (share fr (s + 1) + s + 1) + 2 * (share fr (s + 1) + lsr (s + 1) (s + 1)) ≤ p
      rw [a2]
      omega
  · rw [if_neg c]
    have z0 : longest ps (p - 1) = 0 := by omega
    rw [z0] at big ⊢
    intro z hz
    unfold vac
    have e : share (ps ++ [((0 : Int) + 1, p - 2 * (share ps (0 + 1) + 0 + 1))]) z.1 = share ps z.1 + lsr (0 + 1) z.1 := by
      rw [share_app, share_cons]
      simp [share]
    rw [e]
    rcases List.mem_append.mp hz with m | m
    · have v := hv z m
      have b := big z m
      have h1 := h z m
      unfold vac at v b
      have a2 : lsr (0 + 1) z.1 = 1 := by unfold lsr; split <;> omega
      rw [a2]
      by_cases w : z.2 + 2 * share ps z.1 = p - 1
      · have := b w
        omega
      · omega
    · have : z = _ := List.mem_singleton.mp m
      rw [this]
      have a2 : lsr ((0 : Int) + 1) (0 + 1) = 1 := by unfold lsr; split <;> omega
      show p - 2 * (share ps (0 + 1) + 0 + 1) + 2 * (share ps (0 + 1) + lsr (0 + 1) (0 + 1)) ≤ p
      rw [a2]
      omega
theorem shrink_grow {M : List (Int × Int)} {q : Int} (h : Posi M) (hv : ∀ p ∈ M, vac M p ≤ q - 1) : topP (grow M q) = q ∧ (shrink (grow M q) q).Perm M := by
  obtain ⟨R, g⟩ := gro_grow h q
  have s0 := g.s0
  have gv := grow_vac h hv
  generalize longest M (q - 1) = s at *
  have hp := grow_posi h q
  generalize grow M q = M' at *
  obtain ⟨n1, n2⟩ := g.new
  have sn : share M' (s + 1) = share M (s + 1) + 1 := by rw [g.share (by omega), if_pos (by omega)]
  have en : (s + 1, q + (0 : Int) - 2 - 2 * share M (s + 1)) = (s + 1, q - 2 * share M' (s + 1)) := by
    rw [sn]
    refine Prod.ext rfl ?_
    dsimp only
    omega
  have tp : topP M' = q := by
    refine Int.le_antisymm ?_ ?_
    · have ne : M'.map (vac M') ≠ [] := fun z => by
        have : M' = [] := by simpa using z
        rw [this] at n1
        cases n1
      obtain ⟨p, hp, e⟩ := List.mem_map.mp (lmax_mem ne)
      show lmax _ ≤ _
      rw [← e]
      exact gv p hp
    · have := vac_le n1
      rw [n2] at this
      omega
  have sh : shortest M' q = s + 1 := by
    refine (lmin_of (m := s + 1) ?_ fun y hy => ?_).symm
    · rw [en] at n1
      exact mem_ripes.mpr n1
    · have m := mem_ripes.mp hy
      have p1 := hp _ m
      have v : vac M' (y, q - 2 * share M' y) = q := by
        unfold vac
        show q - 2 * share M' y + 2 * share M' y = q
        omega
      rcases g.old m (by omega) with e | ⟨_, hm, e⟩
      · have : y = s + 1 := congrArg Prod.fst e
        omega
      · rw [v] at e
        have a := hv _ hm
        dsimp only at e
        split at e
        · omega
        · omega
  refine ⟨tp, ?_⟩
  have rs : (rest M' q).Perm R := by
    unfold rest
    rw [sh, ← en]
    have w := g.m'.erase (s + 1, q + (0 : Int) - 2 - 2 * share M (s + 1))
    rwa [List.erase_cons_head] at w
  unfold shrink
  rw [sh]
  by_cases c : 1 < s + 1
  · rw [if_pos c]
    have e1 : share M s = s + share R s := by
      have b := share_perm g.m s
      rw [share_app, share_z s0 s0] at b
      have : lsr s s = s := by unfold lsr; split <;> omega
      omega
    have e2 : s + 1 - 1 = s := by omega
    have e3 := share_perm rs s
    have w := g.m
    unfold zst at w
    rw [if_pos (by omega)] at w
    have e4 : q - 1 - 2 * (share (rest M' q) (s + 1 - 1) + (s + 1) - 1) = q - 1 + 0 - 2 * share M s := by rw [e2]; omega
    rw [e4, e2]
    exact ((List.Perm.append_right _ rs).trans List.perm_append_comm).trans w.symm
  · rw [if_neg c]
    have w := g.m
    unfold zst at w
    rw [if_neg (by omega)] at w
    exact rs.trans w.symm
theorem heap_vac : ∀ (r : List Int) {ps : List (Int × Int)} {q : Int}, Posi ps → (∀ z ∈ ps, vac ps z ≤ q) → (∀ x ∈ r, q < x) → Rising r → ∀ z ∈ r.foldl grow ps, vac (r.foldl grow ps) z ≤ r.getLastD q
  | [], ps, q, _, hv, _, _ => hv
  | p :: r, ps, q, hp, hv, hq, hr => by
    have h1 := grow_vac hp (p := p) (fun z hz => by have := hv z hz; have := hq p List.mem_cons_self; omega)
    obtain ⟨a, b⟩ := List.pairwise_cons.mp hr
    have := heap_vac r (grow_posi hp p) h1 (fun x hx => a x hx) b
    rw [List.foldl_cons]
    have e : (p :: r).getLastD q = r.getLastD p := by cases r <;> rfl
    rw [e]
    exact this

theorem heap_legit {y : List Int} {q : Int} (hy : Rising y) (hq : ∀ x ∈ y, x < q) : ∀ z ∈ heap y, vac (heap y) z ≤ q - 1 := by
  cases y with
  | nil => intro z hz; cases hz
  | cons a y =>
    intro z hz
    have h := heap_vac (a :: y) (ps := []) (q := a - 1) (fun p hp => (nomatch hp)) (fun p hp => (nomatch hp)) (fun x hx => by
      rcases List.mem_cons.mp hx with e | m
      · omega
      · have := (List.pairwise_cons.mp hy).1 x m
        omega) hy z hz
    have lm : (a :: y).getLastD (a - 1) ∈ a :: y := by
      rw [List.getLastD_eq_getLast?]
      have : (a :: y).getLast? = some ((a :: y).getLast (by simp)) := List.getLast?_eq_some_getLast (by simp)
      rw [this]
      exact List.getLast_mem _
    have := hq _ lm
    exact Int.le_trans h (by omega)
theorem heap_app (y l : List Int) : heap (y ++ l) = l.foldl grow (heap y) := by unfold heap; rw [List.foldl_append]
theorem stones_heap_aux : ∀ (n : Nat) (r : List Int), r.length = n → Rising r → ∀ k, n ≤ k → stonesD k (heap r) = r.reverse
  | 0, r, hn, _, k, _ => by
    have : r = [] := List.eq_nil_of_length_eq_zero hn
    subst this
    cases k <;> rfl
  | n + 1, r, hn, hr, k, hk => by
    rcases List.eq_nil_or_concat r with e | ⟨r0, q, e⟩
    · subst e; cases hn
    · rw [List.concat_eq_append] at e
      subst e
      have hn0 : r0.length = n := by simpa using hn
      have hr0 : Rising r0 := (List.pairwise_append.mp hr).1
      have hlt : ∀ x ∈ r0, x < q := fun x hx => (List.pairwise_append.mp hr).2.2 x hx q (by simp)
      have eh : heap (r0 ++ [q]) = grow (heap r0) q := heap_app r0 [q]
      obtain ⟨t1, t2⟩ := shrink_grow (heap_posi r0) (heap_legit hr0 hlt)
      cases k with
      | zero => omega
      | succ k =>
        have ne : grow (heap r0) q ≠ [] := fun z => by
          unfold grow at z
          simp at z
        rw [eh, stonesD_succ, if_neg ne, t1, stones_perm k t2, stones_heap_aux n r0 hn0 hr0 k (by omega), List.reverse_append]
        rfl
theorem heap_weight (r : List Int) : weight (heap r) = r.length := by
  have := weight_grows r (ps := []) (fun p hp => (nomatch hp))
  unfold heap
  rw [this]
  simp [weight]
/-- the row of a row's list is the row -/
theorem stones_heap {r : List Int} (hr : Rising r) : stones (heap r) = r := by
  unfold stones
  rw [stones_heap_aux r.length r rfl hr _ (by rw [heap_weight]; exact Nat.le_refl _), List.reverse_reverse]
theorem heap_inj {r o : List Int} (hr : Rising r) (ho : Rising o) (h : (heap r).Perm (heap o)) : r = o := by
  rw [← stones_heap hr, ← stones_heap ho, stones_perm_eq h]
/-- the row that has this list -/
theorem farR_eq {r o : List Int} {ws : List (Int × Int)} (ho : Rising o) (h : (heap o).Perm (addL (heap r) ws)) : farR r ws = o := heap_inj (farR_rising r ws) ho ((heap_far r ws).trans h.symm)
theorem byw_app (us ws : List (Int × Int)) (s : Int) : byw (us ++ ws) s = byw us s + byw ws s := by simp [byw]
theorem Rc.mono {N M : Nat} {a b : List Int} (h : Rc N a b) (l : M ≤ N) : Rc M a b := by
  rcases h with h | ⟨C, a', b', h1, h2, h3⟩
  · exact .inl h
  · exact .inr ⟨C, a', b', h1, h2, by omega⟩
theorem Rc.take {N k : Nat} {a b : List Int} (h : Rc N a b) (l : k ≤ N) : a.take k = b.take k := by
  rcases h with h | ⟨C, a', b', h1, h2, h3⟩
  · rw [h]
  · rw [h1, h2, List.take_append_of_le_length (by omega), List.take_append_of_le_length (by omega)]
/-- .. all as deep -/
inductive RA (M : Nat) : List Run → List Run → Prop
  | nil : RA M [] []
  | cons {p q : Run} {P L : List Run} : R1 (M + 1) p q → RA M P L → RA M (p :: P) (q :: L)
theorem RA.app {M : Nat} {P L : List Run} (h : RA M P L) {p q : Run} (h2 : R1 (M + 1) p q) : RA M (P ++ [p]) (L ++ [q]) := by
  induction h with
  | nil => exact .cons h2 .nil
  | cons h _ ih => exact .cons h ih
theorem Rc.app {N : Nat} {a b x y : List Int} (h : Rc N a b) (h2 : Rc N x y) : Rc N (a ++ x) (b ++ y) := by
  rcases h with h | ⟨C, a', b', e1, e2, e3⟩
  · subst h
    rcases h2 with h2 | ⟨C, a', b', e1, e2, e3⟩
    · exact .inl (by rw [h2])
    · exact .inr ⟨a ++ C, a', b', by rw [e1, List.append_assoc], by rw [e2, List.append_assoc], by rw [List.length_append]; omega⟩
  · exact .inr ⟨C, a' ++ x, b' ++ y, by rw [e1, List.append_assoc], by rw [e2, List.append_assoc], e3⟩
theorem R1.mono {N M : Nat} {p q : Run} (h : R1 N p q) (l : M ≤ N) : R1 M p q := ⟨h.1, h.2.1, Rc.mono h.2.2 l⟩
/-- lists of runs, the last one place less deep -/
inductive RR (M : Nat) : List Run → List Run → Prop
  | nil : RR M [] []
  | last {p q : Run} : R1 M p q → RR M [p] [q]
  | cons {p q : Run} {P L : List Run} : R1 (M + 1) p q → RR M P L → RR M (p :: P) (q :: L)
theorem RR.mono {M N : Nat} {P L : List Run} (h : RR M P L) (l : N ≤ M) : RR N P L := by
  induction h with
  | nil => exact .nil
  | last h => exact .last (R1.mono h l)
  | cons h _ ih => exact .cons (R1.mono h (by omega)) ih
theorem RA.toR {M : Nat} {P L : List Run} (h : RA M P L) : RR M P L := by
  induction h with
  | nil => exact .nil
  | cons h _ ih => exact .cons h ih
theorem RA.appL {M : Nat} {P L : List Run} (h : RA M P L) {p q : Run} (h2 : R1 M p q) : RR M (P ++ [p]) (L ++ [q]) := by
  induction h with
  | nil => exact .last h2
  | cons h _ ih => exact .cons h ih
theorem Drawn.snoc {l : List Int} {x : Int} (h : Drawn l) (h1 : 0 ≤ x) (h2 : x < 9967) : Drawn (l ++ [x]) := fun d hd => by
  rcases List.mem_append.mp hd with z | z
  · exact h d z
  · have : d = x := by simpa using z
    subst this
    exact ⟨h1, h2⟩
theorem Alt.snoc {f : List Run} {l r : Run} (h : Alt (f ++ [l])) (e1 : l.1 ≠ r.1) (e2 : r.2 ≠ []) : Alt (f ++ [l] ++ [r]) := by
  refine ⟨fun p hp => ?_, fun p hp => ?_, fun A B p q e => ?_⟩
  · rcases List.mem_append.mp hp with w | w
    · exact h.ne p w
    · rw [List.mem_singleton.mp w]; exact e2
  · cases f with
    | nil => exact h.hd p hp
    | cons a f => exact h.hd p hp
  · rcases List.eq_nil_or_concat B with w | ⟨B0, b, w⟩
    · subst w
      have e3 : f ++ [l] ++ [r] = (A ++ [p]) ++ [q] := by rw [e]; simp
      obtain ⟨e4, e5⟩ := List.append_inj' e3 rfl
      cases e5
      obtain ⟨_, e7⟩ := List.append_inj' e4 rfl
      cases e7
      exact e1
    · rw [List.concat_eq_append] at w
      subst w
      have e3 : f ++ [l] ++ [r] = (A ++ p :: q :: B0) ++ [b] := by rw [e]; simp
      obtain ⟨e4, _⟩ := List.append_inj' e3 rfl
      exact h.ch A B0 p q e4
theorem RA.snoc {M : Nat} {P L : List Run} (h : RA M P L) : (P = [] ∧ L = []) ∨ ∃ P0 p L0 q, P = P0 ++ [p] ∧ L = L0 ++ [q] ∧ RA M P0 L0 ∧ R1 (M + 1) p q := by
  induction h with
  | nil => exact .inl ⟨rfl, rfl⟩
  | cons h hr ih =>
    right
    rcases ih with ⟨rfl, rfl⟩ | ⟨P0, p, L0, q, rfl, rfl, h1, h2⟩
    · exact ⟨[], _, [], _, rfl, rfl, .nil, h⟩
    · exact ⟨_ :: P0, p, _ :: L0, q, rfl, rfl, .cons h h1, h2⟩
theorem Alt.snocL {f : List Run} {l : Run} (h : Alt (f ++ [l])) {l2 : Run} (e1 : l2.1 = l.1) (e2 : l2.2 ≠ []) : Alt (f ++ [l2]) := by
  refine ⟨fun p hp => ?_, fun p hp => ?_, fun A B p q e => ?_⟩
  · rcases List.mem_append.mp hp with w | w
    · exact h.ne p (List.mem_append_left _ w)
    · rw [List.mem_singleton.mp w]; exact e2
  · cases f with
    | nil =>
      have := h.hd l rfl
      cases hp
      rw [e1]; exact this
    | cons a f => exact h.hd p hp
  · rcases List.eq_nil_or_concat B with w | ⟨B0, b, w⟩
    · subst w
      have e3 : f ++ [l2] = (A ++ [p]) ++ [q] := by rw [e]; simp
      obtain ⟨e4, e5⟩ := List.append_inj' e3 rfl
      cases e5
      have := h.ch A [] p l (by rw [e4]; simp)
      rw [e1]; exact this
    · rw [List.concat_eq_append] at w
      subst w
      have e3 : f ++ [l2] = (A ++ p :: q :: B0) ++ [b] := by rw [e]; simp
      obtain ⟨e4, e5⟩ := List.append_inj' e3 rfl
      exact h.ch A (B0 ++ [l]) p q (by rw [e4]; simp)
def offK (A : List (Int × Int)) (s : Int) : List Int := (A.filter fun p => decide (p.1 = s)).map (·.2)
theorem offK_len (A : List (Int × Int)) (s : Int) : (offK A s).length ≤ A.length := by
  unfold offK
  rw [List.length_map]
  exact List.length_filter_le _ _
theorem offs_ok (A : List (Int × Int)) (s : Int) : f_offsets_of [.lst (A.map twoD), .int s] = .ok (.lst ((offK A s).map D.int)) := by
  have c : gComp (gIter (gVar 0)) (.tup [2, 3]) [2, 3] (gTest (gBin dEq (gVar 2) (gVar 1))) (gVar 3) [some (.lst (A.map twoD)), some (.int s), none, none] = .ok (.lst ((A.filter fun p => decide (p.1 = s)).map fun p => D.int p.2)) :=
    gComp_filter (l := A) (F := twoD) (p := fun p => decide (p.1 = s)) (G := fun p => D.int p.2) rfl fun p _ => by
      by_cases e : p.1 = s <;> simp [gTurn, twoD, e]
  have e : ((A.filter fun p => decide (p.1 = s)).map fun p => D.int p.2) = (offK A s).map D.int := by unfold offK; rw [List.map_map]; rfl
  rw [e] at c
  generalize (offK A s).map D.int = o at *
  generalize A.map twoD = a at *
  simp [f_offsets_of, m_offsets_of, c]
def szK (A B : List (Int × Int)) : List Int := sortSet ((A ++ B).map (·.1))
theorem szK_mem {A B : List (Int × Int)} {s : Int} : s ∈ szK A B ↔ ∃ p ∈ A ++ B, p.1 = s := by
  unfold szK
  rw [sortSet_mem, List.mem_map]
def difs (A B : List (Int × Int)) (s : Int) : List Int := ((offK A s).zip (offK B s)).map fun p => p.2 - p.1
theorem difs_len (A B : List (Int × Int)) (s : Int) : (difs A B s).length ≤ A.length := by
  unfold difs
  rw [List.length_map, List.length_zip]
  have := offK_len A s
  omega
def bad1 (A B : List (Int × Int)) (s : Int) : Bool := decide ((offK A s).length ≠ (offK B s).length)
def bad2 (A B : List (Int × Int)) (s : Int) : Bool := decide (1 < (sortSet (difs A B s)).length)
def barT (w : Str) (s : Int) : D := .tup [.str w, .int s]
/-- the first bar, if any -/
def barO (A B : List (Int × Int)) : Option D := match (szK A B).find? (bad1 A B) with
  | some s => some (barT "sizes" s)
  | none => match (szK A B).find? (bad2 A B) with
    | some s => some (barT "apart" s)
    | none => none
theorem sizes_comp2 (A B : List (Int × Int)) (hl : A.length + B.length ≤ 63) {x y : Option D} {k1 k2 : Nat} {r : Sl} (gi : Sl → R (List D)) (ge : Sl → R D) (h : gi r = .ok ((A ++ B).map twoD)) (hg : ∀ p ∈ A ++ B, gTurn (.tup [k1, k2]) [k1, k2] gYes ge r (twoD p) = .ok (some (.int p.1))) : gUn dSet (gComp gi (.tup [k1, k2]) [k1, k2] gYes ge) r = .ok (.lst ((szK A B).map D.int)) := by
  have c : gComp gi (.tup [k1, k2]) [k1, k2] gYes ge r = .ok (.lst ((A ++ B).map fun p => D.int p.1)) := gComp_map (l := A ++ B) (F := twoD) (G := fun p => D.int p.1) h hg
  have e : ((A ++ B).map fun p => D.int p.1) = ((A ++ B).map (·.1)).map D.int := by rw [List.map_map]; rfl
  have so := set_ok ((A ++ B).map (·.1)) (by rw [List.length_map, List.length_append]; exact hl)
  rw [e] at c
  unfold szK
  generalize ((A ++ B).map (·.1)).map D.int = q at *
  simp [gUn, c, so]
theorem lenSet_ok (l : List Int) (h : l.length ≤ 4000) : dLenSet (.lst (l.map D.int)) = .ok (.int ((sortSet l).length : Nat)) := by
  unfold dLenSet
  dsimp only
  rw [intsOf_map]
  dsimp only
  rw [if_pos h]
theorem zip_difs (A B : List (Int × Int)) (s : Int) (hl : A.length ≤ 1000) {k1 k2 : Nat} {r : Sl} (gi : Sl → R (List D)) (ge : Sl → R D) (h : gi r = .ok (zipD ((offK A s).map D.int) ((offK B s).map D.int))) (hg : ∀ p : Int × Int, gTurn (.tup [k1, k2]) [k1, k2] gYes ge r (twoD p) = .ok (some (.int (p.2 - p.1)))) : gUn dLenSet (gComp gi (.tup [k1, k2]) [k1, k2] gYes ge) r = .ok (.int ((sortSet (difs A B s)).length : Nat)) := by
  have ez : zipD ((offK A s).map D.int) ((offK B s).map D.int) = ((offK A s).zip (offK B s)).map twoD := by
    unfold zipD
    rw [List.zip_map, List.map_map]
    rfl
  rw [ez] at h
  have c : gComp gi (.tup [k1, k2]) [k1, k2] gYes ge r = .ok (.lst (((offK A s).zip (offK B s)).map fun p => D.int (p.2 - p.1))) := gComp_map (l := (offK A s).zip (offK B s)) (F := twoD) (G := fun p => D.int (p.2 - p.1)) h fun p _ => hg p
  have e : (((offK A s).zip (offK B s)).map fun p => D.int (p.2 - p.1)) = (difs A B s).map D.int := by unfold difs; rw [List.map_map]; rfl
  have ls := lenSet_ok (difs A B s) (by have := difs_len A B s; omega)
  rw [e] at c
  generalize (difs A B s).map D.int = q at *
  simp [gUn, c, ls, -dLenSet]
theorem bar_ok (A B : List (Int × Int)) (hl : A.length + B.length ≤ 63) : f_bar_of [.lst (A.map twoD), .lst (B.map twoD)] = .ok ((barO A B).getD .non) := by
  have lz : (A.map twoD).length + (B.map twoD).length ≤ szL := le_szL (by rw [List.length_map, List.length_map]; omega)
  have sz := sizes_comp2 A B hl (x := none) (y := none) (k1 := 3) (k2 := 4) (r := [some (.lst (A.map twoD)), some (.lst (B.map twoD)), none, none, none, none, none, none]) (gIter (gBin dAdd (gVar 0) (gVar 1))) (gVar 3) (by
    rw [List.map_append]
    generalize A.map twoD = a at *
    generalize B.map twoD = b at *
    simp [dIter, lz]) fun p _ => by simp [gTurn, twoD]
  have z2 : (2 : Nat) ≤ szL := le_szL (by decide)
  obtain ⟨r1, ⟨x3, x4, x5, x6, x7, e1⟩, l1⟩ := forL_first (F := D.int) (bad1 A B) (fun r => ∃ x3 x4 x5 x6 x7, r = [some (.lst (A.map twoD)), some (.lst (B.map twoD)), some (.lst ((szK A B).map D.int)), x3, x4, x5, x6, x7]) (fun s r => .rt (barT "sizes" s) r) (fun _ _ _ z => by cases z) (.one 3) b_bar_of_1 (szK A B) [some (.lst (A.map twoD)), some (.lst (B.map twoD)), some (.lst ((szK A B).map D.int)), none, none, none, none, none] ⟨_, _, _, _, _, rfl⟩ fun s _ r ⟨x3, x4, x5, x6, x7, e⟩ => by
    subst e
    refine ⟨[.int s], _, rfl, ⟨some (.int s), x4, x5, x6, x7, rfl⟩, ?_⟩
    have oa := offs_ok A s
    have ob := offs_ok B s
    have la : fLen [.lst ((offK A s).map D.int)] = .ok (.int ((offK A s).length : Nat)) := by simp [fLen]
    have lb : fLen [.lst ((offK B s).map D.int)] = .ok (.int ((offK B s).length : Nat)) := by simp [fLen]
    have ne := dNe_int (((offK A s).length : Nat) : Int) (((offK B s).length : Nat) : Int)
    unfold bad1 barT
    generalize (szK A B).map D.int = ss at *
    generalize (offK A s).map D.int = qa at *
    generalize (offK B s).map D.int = qb at *
    generalize A.map twoD = a at *
    generalize B.map twoD = b at *
    by_cases e : (offK A s).length = (offK B s).length
    · simp [b_bar_of_1, oa, ob, la, lb, setD, e, -fLen]
    · have e' : ¬ (((offK A s).length : Nat) : Int) = ((offK B s).length : Nat) := fun z => e (Int.ofNat.inj z)
      simp [b_bar_of_1, oa, ob, la, lb, setD, e, e', z2, D.plain, -fLen]
  subst e1
  unfold barO
  cases q1 : (szK A B).find? (bad1 A B) with
  | some s =>
    rw [q1] at l1
    generalize (szK A B).map D.int = ss at *
    generalize A.map twoD = a at *
    generalize B.map twoD = b at *
    simp [f_bar_of, m_bar_of, sz, l1, dIter, -gUn, -gComp]
  | none =>
    rw [q1] at l1
    obtain ⟨r2, ⟨y3, y4, y5, y6, y7, e2⟩, l2⟩ := forL_first (F := D.int) (bad2 A B) (fun r => ∃ x3 x4 x5 x6 x7, r = [some (.lst (A.map twoD)), some (.lst (B.map twoD)), some (.lst ((szK A B).map D.int)), x3, x4, x5, x6, x7]) (fun s r => .rt (barT "apart" s) r) (fun _ _ _ z => by cases z) (.one 3) b_bar_of_2 (szK A B) [some (.lst (A.map twoD)), some (.lst (B.map twoD)), some (.lst ((szK A B).map D.int)), x3, x4, x5, x6, x7] ⟨_, _, _, _, _, rfl⟩ fun s _ r ⟨x3, x4, x5, x6, x7, e⟩ => by
      subst e
      refine ⟨[.int s], _, rfl, ⟨some (.int s), x4, some (.lst (zipD ((offK A s).map D.int) ((offK B s).map D.int))), x6, x7, rfl⟩, ?_⟩
      have oa := offs_ok A s
      have ob := offs_ok B s
      have zd : dListZip (.lst ((offK A s).map D.int)) (.lst ((offK B s).map D.int)) = .ok (.lst (zipD ((offK A s).map D.int) ((offK B s).map D.int))) := rfl
      have ls := zip_difs A B s (by omega) (k1 := 6) (k2 := 7) (r := [some (.lst (A.map twoD)), some (.lst (B.map twoD)), some (.lst ((szK A B).map D.int)), some (.int s), x4, some (.lst (zipD ((offK A s).map D.int) ((offK B s).map D.int))), x6, x7]) (gIter (gVar 5)) (gBin dSub (gVar 7) (gVar 6)) rfl fun p => by simp [gTurn, twoD]
      unfold bad2 barT
      generalize zipD ((offK A s).map D.int) ((offK B s).map D.int) = zz at *
      generalize (szK A B).map D.int = ss at *
      generalize (offK A s).map D.int = qa at *
      generalize (offK B s).map D.int = qb at *
      generalize A.map twoD = a at *
      generalize B.map twoD = b at *
      generalize (sortSet (difs A B s)).length = n at *
      by_cases e : 1 < n
      · have e' : (1 : Int) < (n : Int) := by omega
        simp [b_bar_of_2, oa, ob, zd, ls, setD, e, e', z2, D.plain, -gUn, -gComp]
      · have e' : ¬ (1 : Int) < (n : Int) := by omega
        simp [b_bar_of_2, oa, ob, zd, ls, setD, e, e', -gUn, -gComp]
    subst e2
    cases q2 : (szK A B).find? (bad2 A B) with
    | some s =>
      rw [q2] at l2
      generalize (szK A B).map D.int = ss at *
      generalize A.map twoD = a at *
      generalize B.map twoD = b at *
      simp [f_bar_of, m_bar_of, sz, l1, l2, dIter, -gUn, -gComp]
    | none =>
      rw [q2] at l2
      generalize (szK A B).map D.int = ss at *
      generalize A.map twoD = a at *
      generalize B.map twoD = b at *
      simp [f_bar_of, m_bar_of, sz, l1, l2, dIter, D.bare, -gUn, -gComp]

/-- so far up to a size -/
def extS (fo : List Int) (s by_ : Int) : List Int := fo ++ List.replicate (s + 1 - (fo.length : Int)).toNat by_
def dOf (A B : List (Int × Int)) (s : Int) : Int := (offK B s).headD 0 - (offK A s).headD 0
def stepsL (A B : List (Int × Int)) : List Int → List Int := fun ss => ss.foldl (fun fo s => extS fo s (dOf A B s)) [0]
def szA (A : List (Int × Int)) : List Int := sortSet (A.map (·.1))
theorem szA_mem {A : List (Int × Int)} {s : Int} : s ∈ szA A ↔ ∃ p ∈ A, p.1 = s := by
  unfold szA
  rw [sortSet_mem, List.mem_map]
structure StepsOk (d : Int → Int) (done : List Int) (fo : List Int) : Prop where
  pos : 1 ≤ fo.length
  h0 : fo.getD 0 0 = 0
  top : ∀ s ∈ done, s + 1 ≤ (fo.length : Int)
  at_ : ∀ s ∈ done, fo.getD s.toNat 0 = d s
  last : done = [] ∧ fo = [0] ∨ ∃ s, s ∈ done ∧ (fo.length : Int) = s + 1
theorem ext_ok {d : Int → Int} {done fo : List Int} (h : StepsOk d done fo) (s : Int) (hs : 1 ≤ s) (lt : ∀ q ∈ done, q < s) : StepsOk d (done ++ [s]) (extS fo s (d s)) ∧ ((extS fo s (d s)).length : Int) = s + 1 := by
  have lf : (fo.length : Int) ≤ s := by
    rcases h.last with ⟨_, e⟩ | ⟨q, hq, e⟩
    · rw [e]; simpa using hs
    · have := lt q hq; omega
  have ln : ((extS fo s (d s)).length : Int) = s + 1 := by
    unfold extS
    rw [List.length_append, List.length_replicate]
    omega
  have pos := h.pos
  have old : ∀ k : Nat, k < fo.length → (extS fo s (d s)).getD k 0 = fo.getD k 0 := fun k hk => by
    unfold extS
    rw [List.getD_eq_getElem?_getD, List.getD_eq_getElem?_getD, List.getElem?_append_left hk]
  refine ⟨⟨by omega, by rw [old 0 (by omega)]; exact h.h0, fun q hq => ?_, fun q hq => ?_, .inr ⟨s, by simp, ln⟩⟩, ln⟩
  · rw [ln]
    rcases List.mem_append.mp hq with w | w
    · have := lt q w; omega
    · rw [List.mem_singleton.mp w]; omega
  · rcases List.mem_append.mp hq with w | w
    · have t := h.top q w
      rw [old q.toNat (by omega)]
      exact h.at_ q w
    · rw [List.mem_singleton.mp w]
      unfold extS
      rw [List.getD_eq_getElem?_getD, List.getElem?_append_right (by omega), List.getElem?_replicate, if_pos (by omega)]
      rfl
theorem steps_fold {d : Int → Int} : ∀ (ss done fo : List Int), StepsOk d done fo → (done ++ ss).Pairwise (· < ·) → (∀ s ∈ ss, 1 ≤ s) → StepsOk d (done ++ ss) (ss.foldl (fun fo s => extS fo s (d s)) fo)
  | [], done, fo, h, _, _ => by rw [List.append_nil]; exact h
  | s :: ss, done, fo, h, pw, hs => by
    have z := ext_ok h s (hs s List.mem_cons_self) fun q hq => (List.pairwise_append.mp pw).2.2 q hq s List.mem_cons_self
    have := steps_fold ss (done ++ [s]) _ z.1 (by rw [List.append_assoc]; exact pw) fun q hq => hs q (List.mem_cons_of_mem _ hq)
    rw [List.append_assoc] at this
    exact this
theorem stepsL_ok (A B : List (Int × Int)) (h : Posi A) : StepsOk (dOf A B) (szA A) (stepsL A B (szA A)) := by
  have z := steps_fold (d := dOf A B) (szA A) [] [0] ⟨by simp, rfl, (fun _ q => nomatch q), (fun _ q => nomatch q), .inl ⟨rfl, rfl⟩⟩ (by rw [List.nil_append]; exact sortSet_lt _) fun s hs => by
    obtain ⟨p, hp, rfl⟩ := szA_mem.mp hs
    exact h p hp
  exact z
theorem flat_rep (n : Nat) (x : D) : (List.replicate n [x]).flatten = List.replicate n x := by
  induction n with
  | zero => rfl
  | succ n ih => rw [List.replicate_succ, List.flatten_cons, ih, List.replicate_succ]; rfl
theorem steps_step (A B : List (Int × Int)) (s : Int) (hs1 : 1 ≤ s) (hs2 : s ≤ 1000) (ha : offK A s ≠ []) (hb : offK B s ≠ []) (fo : List Int) (hf : (fo.length : Int) ≤ s + 1) (x4 x5 : Option D) :
    ∃ y5, b_steps_by_size_1 [some (.lst (A.map twoD)), some (.lst (B.map twoD)), some (.lst (fo.map D.int)), some (.int s), x4, x5] = .nx [some (.lst (A.map twoD)), some (.lst (B.map twoD)), some (.lst ((extS fo s (dOf A B s)).map D.int)), some (.int s), x4, y5] := by
  have oa := offs_ok A s
  have ob := offs_ok B s
  have ia := head_getD (offK A s) ha
  have ib := head_getD (offK B s) hb
  have lf : fLen [.lst (fo.map D.int)] = .ok (.int (fo.length : Nat)) := by simp [fLen]
  have em : (extS fo s (dOf A B s)).map D.int = fo.map D.int ++ List.replicate (s + 1 - (fo.length : Int)).toNat (.int (dOf A B s)) := by
    unfold extS
    rw [List.map_append, List.map_replicate]
  have fr := flat_rep (s + 1 - (fo.length : Int)).toNat (.int (dOf A B s))
  have lr : (s + 1 - (fo.length : Int)).toNat ≤ szL := le_szL (by omega)
  have i6 : -i63 ≤ s + 1 - (fo.length : Int) ∧ s + 1 - (fo.length : Int) < i63 := by
    have := i63_val
    omega
  have lz : (fo.map D.int).length + (List.replicate (s + 1 - (fo.length : Int)).toNat (D.int (dOf A B s))).length ≤ szL := le_szL (by rw [List.length_map, List.length_replicate]; omega)
  refine ⟨some (.int (dOf A B s)), ?_⟩
  rw [em]
  have dd : dOf A B s = (offK B s).headD 0 - (offK A s).headD 0 := rfl
  have mu : dMul (.lst [.int (dOf A B s)]) (.int (s + 1 - (fo.length : Int))) = .ok (.lst (List.replicate (s + 1 - (fo.length : Int)).toNat (.int (dOf A B s)))) := by
    unfold dMul
    dsimp only
    rw [if_pos ⟨i6.1, i6.2, by rw [List.length_singleton, Nat.one_mul]; exact lr⟩, fr]
  generalize (offK B s).headD 0 = hb0 at *
  generalize (offK A s).headD 0 = ha0 at *
  generalize List.replicate (s + 1 - (fo.length : Int)).toNat (D.int (dOf A B s)) = rp at *
  generalize (fo.length : Int) = n at *
  generalize dOf A B s = d at *
  generalize fo.map D.int = fl at *
  generalize (offK A s).map D.int = qa at *
  generalize (offK B s).map D.int = qb at *
  generalize A.map twoD = a at *
  generalize B.map twoD = b at *
  have z1 : (1 : Nat) ≤ szL := le_szL (by decide)
  simp [b_steps_by_size_1, oa, ob, ia, ib, ← dd, lf, mu, lz, z1, -dIdx, -dMul, -fLen]
theorem steps_loop (A B : List (Int × Int)) : ∀ (ss done fo : List Int) (x3 x4 x5 : Option D), StepsOk (dOf A B) done fo → (done ++ ss).Pairwise (· < ·) → (∀ s ∈ ss, 1 ≤ s ∧ s ≤ 1000 ∧ offK A s ≠ [] ∧ offK B s ≠ []) →
    ∃ y3 y5, forL (.one 3) b_steps_by_size_1 (ss.map D.int) [some (.lst (A.map twoD)), some (.lst (B.map twoD)), some (.lst (fo.map D.int)), x3, x4, x5] = .nx [some (.lst (A.map twoD)), some (.lst (B.map twoD)), some (.lst ((ss.foldl (fun fo s => extS fo s (dOf A B s)) fo).map D.int)), y3, x4, y5]
  | [], _, _, x3, _, x5, _, _, _ => ⟨x3, x5, rfl⟩
  | s :: ss, done, fo, x3, x4, x5, h, pw, hs => by
    obtain ⟨h1, h2, h3, h4⟩ := hs s List.mem_cons_self
    have lt := fun q hq => (List.pairwise_append.mp pw).2.2 q hq s List.mem_cons_self
    have z := ext_ok h s h1 lt
    have hf : (fo.length : Int) ≤ s + 1 := by
      rcases h.last with ⟨_, e⟩ | ⟨q, hq, e⟩
      · rw [e]; simp; omega
      · have := lt q hq; omega
    obtain ⟨y5, e⟩ := steps_step A B s h1 h2 h3 h4 fo hf x4 x5
    obtain ⟨z3, z5, ih⟩ := steps_loop A B ss (done ++ [s]) (extS fo s (dOf A B s)) (some (.int s)) x4 y5 z.1 (by rw [List.append_assoc]; exact pw) fun q hq => hs q (List.mem_cons_of_mem _ hq)
    refine ⟨z3, z5, ?_⟩
    rw [List.map_cons, List.foldl_cons, ← ih]
    exact forL_step (xs := [.int s]) rfl e
def foL (A B : List (Int × Int)) : List Int := stepsL A B (szA A)
def stepsF (A B : List (Int × Int)) : List Int := foL A B ++ [(foL A B).getLastD 0]
theorem offK_ne {A : List (Int × Int)} {s : Int} (h : s ∈ szA A) : offK A s ≠ [] := fun z => by
  obtain ⟨p, hp, e⟩ := szA_mem.mp h
  have : p.2 ∈ offK A s := by
    unfold offK
    exact List.mem_map.mpr ⟨p, List.mem_filter.mpr ⟨hp, by simpa using e⟩, rfl⟩
  rw [z] at this
  cases this
theorem steps_ok (A B : List (Int × Int)) (hp : Posi A) (hw : ∀ p ∈ A, p.1 ≤ 1000) (hl : A.length ≤ 63) (hb : ∀ s ∈ szA A, offK B s ≠ []) : f_steps_by_size [.lst (A.map twoD), .lst (B.map twoD)] = .ok (.lst ((stepsF A B).map D.int)) := by
  have so := stepsL_ok A B hp
  obtain ⟨y3, y5, lp⟩ := steps_loop A B (szA A) [] [0] none none none ⟨by simp, rfl, (fun _ q => nomatch q), (fun _ q => nomatch q), .inl ⟨rfl, rfl⟩⟩ (by rw [List.nil_append]; exact sortSet_lt _) fun s hs => by
    obtain ⟨p, hp1, e⟩ := szA_mem.mp hs
    have := hp p hp1
    have := hw p hp1
    exact ⟨by omega, by omega, offK_ne hs, hb s hs⟩
  have c : gComp (gIter (gVar 0)) (.tup [3, 4]) [3, 4] gYes (gVar 3) [some (.lst (A.map twoD)), some (.lst (B.map twoD)), some (.lst [.int 0]), none, none, none] = .ok (.lst (A.map fun p => D.int p.1)) := gComp_map (l := A) (F := twoD) (G := fun p => D.int p.1) rfl fun p _ => by simp [gTurn, twoD]
  have e : (A.map fun p => D.int p.1) = (A.map (·.1)).map D.int := by rw [List.map_map]; rfl
  have ds := set_ok (A.map (·.1)) (by rw [List.length_map]; exact hl)
  rw [e] at c
  have lp' : forL (.one 3) b_steps_by_size_1 ((szA A).map D.int) [some (.lst (A.map twoD)), some (.lst (B.map twoD)), some (.lst [.int 0]), none, none, none] = .nx [some (.lst (A.map twoD)), some (.lst (B.map twoD)), some (.lst ((foL A B).map D.int)), y3, none, y5] := lp
  have ne : foL A B ≠ [] := fun z => by
    have := so.pos
    unfold foL at z
    rw [z] at this
    cases this
  have la := last_getD (foL A B) ne
  have fl : (foL A B).length ≤ 2000 := by
    rcases so.last with ⟨_, e⟩ | ⟨s, hs, e⟩
    · unfold foL; rw [e]; simp
    · obtain ⟨p, hp1, e2⟩ := szA_mem.mp hs
      have := hw p hp1
      unfold foL
      omega
  have lz : ((foL A B).map D.int).length + 1 ≤ szL := le_szL (by rw [List.length_map]; omega)
  have em : (stepsF A B).map D.int = (foL A B).map D.int ++ [.int ((foL A B).getLastD 0)] := by unfold stepsF; rw [List.map_append]; rfl
  rw [em]
  have z1 : (1 : Nat) ≤ szL := le_szL (by decide)
  unfold szA at lp'
  generalize ((A.map (·.1)).map D.int) = q1 at *
  generalize (sortSet (A.map (·.1))).map D.int = q2 at *
  generalize (foL A B).getLastD 0 = la0 at *
  generalize (foL A B).map D.int = q3 at *
  generalize A.map twoD = a at *
  generalize B.map twoD = b at *
  simp [f_steps_by_size, m_steps_by_size, c, ds, lp', la, lz, z1, dIter, -dIdx, -gComp]
def cntW (F : List Int) (c : Nat) : Int := 2 * F.getD c 0 - F.getD (c - 1) 0 - F.getD (c + 1) 0
def walksW (F : List Int) : Nat → List (Int × Int)
  | 0 => []
  | m + 1 => walksW F m ++ if cntW F (m + 1) = 0 then [] else [(((m + 1 : Nat) : Int), cntW F (m + 1))]
theorem walksW_mem (F : List Int) : ∀ (m : Nat), ∀ w ∈ walksW F m, 1 ≤ w.1 ∧ w.1 ≤ m ∧ w.2 ≠ 0
  | 0, w, h => nomatch h
  | m + 1, w, h => by
    rcases List.mem_append.mp h with z | z
    · have := walksW_mem F m w z
      omega
    · split at z
      · cases z
      · rename_i c
        rw [List.mem_singleton.mp z]
        exact ⟨by simp; omega, by simp, c⟩
theorem walksW_nodup (F : List Int) : ∀ (m : Nat), ((walksW F m).map (·.1)).Nodup
  | 0 => List.nodup_nil
  | m + 1 => by
    unfold walksW
    rw [List.map_append]
    refine List.nodup_append.mpr ⟨walksW_nodup F m, ?_, fun a ha b hb => ?_⟩
    · split
      · exact List.nodup_nil
      · exact List.nodup_cons.mpr ⟨fun z => (nomatch z), List.nodup_nil⟩
    · obtain ⟨w, hw, rfl⟩ := List.mem_map.mp ha
      have := walksW_mem F m w hw
      split at hb
      · cases hb
      · have e : b = ((m + 1 : Nat) : Int) := by simpa using hb
        rw [e]
        omega
theorem walksW_len (F : List Int) : ∀ (m : Nat), (walksW F m).length ≤ m
  | 0 => Nat.le_refl 0
  | m + 1 => by
    have := walksW_len F m
    unfold walksW
    rw [List.length_append]
    split <;> simp <;> omega
theorem byw_walksW (F : List Int) (s : Nat) : ∀ m : Nat, byw (walksW F m) s = F.getD (min m s) 0 - F.getD 0 0 - ((min m s : Nat) : Int) * (F.getD (m + 1) 0 - F.getD m 0)
  | 0 => by
    rw [Nat.zero_min]
    show (0 : Int) = _
    omega
  | m + 1 => by
    have ih := byw_walksW F s m
    have e : byw (walksW F (m + 1)) s = byw (walksW F m) s + cntW F (m + 1) * (if (s : Int) < ((m + 1 : Nat) : Int) then (s : Int) else ((m + 1 : Nat) : Int)) := by
      show byw (walksW F m ++ _) _ = _
      rw [byw_app]
      congr 1
      split
      · rename_i c
        rw [c, Int.zero_mul]
        rfl
      · show (cntW F (m + 1) * (if (s : Int) < ((m + 1 : Nat) : Int) then (s : Int) else ((m + 1 : Nat) : Int)) + 0 : Int) = _
        rw [Int.add_zero]
    rw [e, ih]
    have ec : cntW F (m + 1) = (F.getD (m + 1) 0 - F.getD m 0) - (F.getD (m + 1 + 1) 0 - F.getD (m + 1) 0) := by
      unfold cntW
      rw [Nat.add_sub_cancel]
      omega
    rw [ec]
    generalize F.getD (m + 1 + 1) 0 - F.getD (m + 1) 0 = b
    by_cases c : s ≤ m
    · rw [if_pos (by omega), Nat.min_eq_right c, Nat.min_eq_right (by omega)]
      generalize F.getD (m + 1) 0 - F.getD m 0 = a
      rw [Int.mul_comm (a - b), Int.mul_sub]
      omega
    · rw [if_neg (by omega), Nat.min_eq_left (by omega), Nat.min_eq_left (by omega)]
      generalize ha : F.getD (m + 1) 0 - F.getD m 0 = a at *
      have k : (a - b) * ((m + 1 : Nat) : Int) = (m : Int) * a + a - ((m : Int) * b + b) := by
        rw [Int.mul_comm, Int.mul_sub, show (((m + 1 : Nat) : Nat) : Int) = (m : Int) + 1 from rfl, Int.add_mul, Int.add_mul, Int.one_mul, Int.one_mul]
      have k2 : ((m + 1 : Nat) : Int) * b = (m : Int) * b + b := by
        rw [show (((m + 1 : Nat) : Nat) : Int) = (m : Int) + 1 from rfl, Int.add_mul, Int.one_mul]
      rw [k, k2]
      generalize (m : Int) * a = t at *
      generalize (m : Int) * b = u at *
      omega
def kinM (A B : List (Int × Int)) : Nat := (foL A B).length - 1
def kinW (A B : List (Int × Int)) : List (Int × Int) := walksW (stepsF A B) (kinM A B)
theorem kinW_by (A B : List (Int × Int)) (hp : Posi A) (s : Int) (hs : s ∈ szA A) : byw (kinW A B) s = dOf A B s ∧ s ≤ (kinM A B : Int) := by
  have so := stepsL_ok A B hp
  have hs1 : 1 ≤ s := by
    obtain ⟨p, hp1, e⟩ := szA_mem.mp hs
    have := hp p hp1
    omega
  have t := so.top s hs
  have t : s + 1 ≤ ((foL A B).length : Int) := t
  have pos : 1 ≤ (foL A B).length := so.pos
  have a := so.at_ s hs
  have a : (foL A B).getD s.toNat 0 = dOf A B s := a
  have h0 : (foL A B).getD 0 0 = 0 := so.h0
  have es : ((s.toNat : Nat) : Int) = s := by omega
  have lt : s.toNat ≤ kinM A B := by unfold kinM; omega
  have b := byw_walksW (stepsF A B) s.toNat (kinM A B)
  rw [es, Nat.min_eq_right lt] at b
  have low : ∀ k : Nat, k < (foL A B).length → (stepsF A B).getD k 0 = (foL A B).getD k 0 := fun k hk => by
    unfold stepsF
    rw [List.getD_eq_getElem?_getD, List.getD_eq_getElem?_getD, List.getElem?_append_left hk]
  have em : kinM A B + 1 = (foL A B).length := by unfold kinM; omega
  have top : (stepsF A B).getD (kinM A B + 1) 0 = (stepsF A B).getD (kinM A B) 0 := by
    rw [low (kinM A B) (by omega), em]
    unfold stepsF
    rw [List.getD_eq_getElem?_getD, List.getElem?_append_right (Nat.le_refl _), Nat.sub_self]
    show (foL A B).getLastD 0 = _
    rw [List.getLastD_eq_getLast?, List.getLast?_eq_getElem?, List.getD_eq_getElem?_getD]
    rfl
  rw [top, low s.toNat (by omega), low 0 (by omega), a, h0, Int.sub_self, Int.mul_zero] at b
  exact ⟨by unfold kinW; omega, by omega⟩
theorem int_getD {r : List Int} {k : Nat} (h : k < r.length) {j : Int} (hj : j = (k : Int)) : dIdx (.lst (r.map D.int)) (.int j) = .ok (.int (r.getD k 0)) := by
  rw [int_in h hj, List.getD_eq_getElem?_getD, List.getElem?_eq_getElem h]
  rfl
theorem wby_step (F : List Int) (c : Nat) (h1 : 1 ≤ c) (h2 : c + 1 < F.length) (hF : F.length ≤ 10000) (ws : List (Int × Int)) (hw : ws.length ≤ 10000) (x3 : Option D) :
    b_walks_by_1 [some (.lst (F.map D.int)), some (.lst (ws.map twoD)), some (.int (c : Nat)), x3] = .nx [some (.lst (F.map D.int)), some (.lst ((ws ++ if cntW F c = 0 then [] else [((c : Int), cntW F c)]).map twoD)), some (.int (c : Nat)), some (.int (cntW F c))] := by
  have i0 := int_getD (r := F) (k := c) (by omega) (j := (c : Int)) rfl
  have i1 := int_getD (r := F) (k := c - 1) (by omega) (j := (c : Int) - 1) (by omega)
  have i2 := int_getD (r := F) (k := c + 1) (by omega) (j := (c : Int) + 1) rfl
  have m2 := mul2 (F.getD c 0)
  have z2 : (2 : Nat) ≤ szL := le_szL (by decide)
  have lz : ws.length < szL := lt_szL (by omega)
  have ec : 2 * F.getD c 0 - F.getD (c - 1) 0 - F.getD (c + 1) 0 = cntW F c := rfl
  generalize F.getD c 0 = g0 at *
  generalize F.getD (c - 1) 0 = g1 at *
  generalize F.getD (c + 1) 0 = g2 at *
  by_cases e : cntW F c = 0
  · have ne : dNe (.int (cntW F c)) (.int 0) = .ok (.bl false) := by rw [dNe_int, e]; rfl
    rw [if_pos e, List.append_nil]
    generalize F.map D.int = fl at *
    generalize ws.map twoD = wl at *
    generalize (c : Int) = ci at *
    simp [b_walks_by_1, i0, i1, i2, m2, ec, ne, -dIdx, -dNe_int]
  · have ne : dNe (.int (cntW F c)) (.int 0) = .ok (.bl true) := by rw [dNe_int]; simp [e]
    rw [if_neg e, List.map_append, List.map_singleton]
    have lz' : (ws.map twoD).length < szL := by rw [List.length_map]; exact lz
    generalize F.map D.int = fl at *
    generalize ws.map twoD = wl at *
    generalize (c : Int) = ci at *
    simp [b_walks_by_1, i0, i1, i2, m2, ec, ne, z2, lz', twoD, -dIdx, -dNe_int]
theorem wby_loop (F : List Int) (hF : F.length ≤ 10000) : ∀ (m k : Nat) (x2 x3 : Option D), k + m + 2 ≤ F.length → ∃ y2 y3, forL (.one 2) b_walks_by_1 ((List.range' (k + 1) m).map fun (i : Nat) => D.int i) [some (.lst (F.map D.int)), some (.lst ((walksW F k).map twoD)), x2, x3] = .nx [some (.lst (F.map D.int)), some (.lst ((walksW F (k + m)).map twoD)), y2, y3]
  | 0, k, x2, x3, _ => ⟨x2, x3, rfl⟩
  | m + 1, k, x2, x3, h => by
    have st := wby_step F (k + 1) (by omega) (by omega) hF (walksW F k) (by have := walksW_len F k; omega) x3
    obtain ⟨y2, y3, ih⟩ := wby_loop F hF m (k + 1) (some (.int ((k + 1 : Nat) : Int))) (some (.int (cntW F (k + 1)))) (by omega)
    refine ⟨y2, y3, ?_⟩
    rw [List.range'_succ, List.map_cons, show k + (m + 1) = k + 1 + m by omega, ← ih]
    exact forL_step (xs := [.int ((k + 1 : Nat) : Int)]) rfl st
theorem wby_ok (F : List Int) (m : Nat) (hm : F.length = m + 2) (hF : F.length ≤ 10000) : f_walks_by [.lst (F.map D.int)] = .ok (.lst ((walksW F m).map twoD)) := by
  obtain ⟨y2, y3, lp⟩ := wby_loop F hF m 0 none none (by omega)
  rw [Nat.zero_add, Nat.zero_add] at lp
  have lf : fLen [.lst (F.map D.int)] = .ok (.int (F.length : Nat)) := by simp [fLen]
  have rg := dRange2_nat (a := 1) (n := m) (by omega)
  have er : ((F.length : Nat) : Int) - 1 = ((1 + m : Nat) : Int) := by omega
  rw [← er] at rg
  have rg' : dRange2 (.int 1) (.int ((F.length : Nat) - 1)) = _ := rg
  have lp' : forL (.one 2) b_walks_by_1 ((List.range' 1 m).map fun (i : Nat) => D.int i) [some (.lst (F.map D.int)), some (.lst []), none, none] = _ := lp
  generalize (List.range' 1 m).map (fun (i : Nat) => D.int i) = rr at *
  generalize (walksW F m).map twoD = ww at *
  generalize ((F.length : Nat) : Int) = n at *
  generalize F.map D.int = fl at *
  simp [f_walks_by, m_walks_by, lf, rg', lp', -fLen]

theorem bars_none {A B : List (Int × Int)} (h : barO A B = none) (s : Int) : (offK A s).length = (offK B s).length ∧ (sortSet (difs A B s)).length ≤ 1 := by
  by_cases m : s ∈ szK A B
  · unfold barO at h
    cases q1 : (szK A B).find? (bad1 A B) with
    | some q => rw [q1] at h; cases h
    | none =>
      rw [q1] at h
      dsimp only at h
      cases q2 : (szK A B).find? (bad2 A B) with
      | some q => rw [q2] at h; cases h
      | none =>
        have a := List.find?_eq_none.mp q1 s m
        have b := List.find?_eq_none.mp q2 s m
        unfold bad1 at a
        unfold bad2 at b
        simp only [decide_eq_true_eq] at a b
        exact ⟨by omega, by omega⟩
  · have ea : offK A s = [] := by
      unfold offK
      rw [List.filter_eq_nil_iff.mpr fun p hp => ?_]
      · rfl
      · simp only [decide_eq_true_eq]
        exact fun e => m (szK_mem.mpr ⟨p, List.mem_append_left _ hp, e⟩)
    have eb : offK B s = [] := by
      unfold offK
      rw [List.filter_eq_nil_iff.mpr fun p hp => ?_]
      · rfl
      · simp only [decide_eq_true_eq]
        exact fun e => m (szK_mem.mpr ⟨p, List.mem_append_right _ hp, e⟩)
    unfold difs
    rw [ea, eb]
    exact ⟨rfl, by decide⟩
theorem set_one {l : List Int} (h : (sortSet l).length ≤ 1) {x y : Int} (hx : x ∈ l) (hy : y ∈ l) : x = y := by
  have a := (sortSet_mem l x).mpr hx
  have b := (sortSet_mem l y).mpr hy
  match q : sortSet l, h with
  | [], _ => rw [q] at a; cases a
  | [z], _ =>
    rw [q] at a b
    rw [List.mem_singleton.mp a, List.mem_singleton.mp b]
  | _ :: _ :: _, h => simp at h
theorem head_at : ∀ (l : List Int) (h : 0 < l.length), l.headD 0 = l[0]
  | [], h => by simp at h
  | x :: r, _ => rfl
theorem off_moved {A B : List (Int × Int)} (h : barO A B = none) (s : Int) : (offK A s).map (· + dOf A B s) = offK B s := by
  obtain ⟨hl, hd⟩ := bars_none h s
  refine List.ext_getElem (by rw [List.length_map]; exact hl) fun i h1 h2 => ?_
  rw [List.getElem_map]
  rw [List.length_map] at h1
  have m : ∀ j (h1 : j < (offK A s).length) (h2 : j < (offK B s).length), (offK B s)[j] - (offK A s)[j] ∈ difs A B s := fun j h1 h2 => by
    unfold difs
    refine List.mem_map.mpr ⟨((offK A s)[j], (offK B s)[j]), ?_, rfl⟩
    refine List.mem_iff_getElem.mpr ⟨j, by rw [List.length_zip]; omega, ?_⟩
    rw [List.getElem_zip]
  have e := set_one hd (m i h1 h2) (m 0 (by omega) (by omega))
  have ed : dOf A B s = (offK B s)[0]'(by omega) - (offK A s)[0]'(by omega) := by
    unfold dOf
    rw [head_at (offK A s) (by omega), head_at (offK B s) (by omega)]
  omega
theorem count_off (s o : Int) : ∀ A : List (Int × Int), A.count (s, o) = (offK A s).count o
  | [] => rfl
  | p :: A => by
    have ih := count_off s o A
    have e : offK (p :: A) s = if p.1 = s then p.2 :: offK A s else offK A s := by
      unfold offK
      rw [List.filter_cons]
      by_cases c : p.1 = s <;> simp [c]
    rw [e, List.count_cons, ih]
    by_cases c : p.1 = s
    · rw [if_pos c, List.count_cons]
      by_cases c2 : p.2 = o
      · rw [if_pos (by simp [← c, ← c2]), if_pos (by simp [c2])]
      · rw [if_neg (by intro z; exact c2 (by have := congrArg Prod.snd (eq_of_beq z); exact this)), if_neg (by simp [c2])]
    · rw [if_neg c, if_neg (by intro z; exact c (by have := congrArg Prod.fst (eq_of_beq z); exact this))]
      rfl
theorem off_add (ws : List (Int × Int)) (s : Int) : ∀ A : List (Int × Int), offK (addL A ws) s = (offK A s).map (· + byw ws s)
  | [] => rfl
  | p :: A => by
    have ih := off_add ws s A
    have e : ∀ (q : Int × Int) (A : List (Int × Int)), offK (q :: A) s = if q.1 = s then q.2 :: offK A s else offK A s := fun q A => by
      unfold offK
      rw [List.filter_cons]
      by_cases c : q.1 = s <;> simp [c]
    have ea : addL (p :: A) ws = (p.1, p.2 + byw ws p.1) :: addL A ws := rfl
    rw [ea, e, e, ih]
    by_cases c : p.1 = s
    · rw [if_pos c, if_pos c, List.map_cons, c]
    · rw [if_neg c, if_neg c]
theorem kin_perm {A B : List (Int × Int)} (hp : Posi A) (h : barO A B = none) : (addL A (kinW A B)).Perm B := by
  refine List.perm_iff_count.mpr fun ⟨s, o⟩ => ?_
  rw [count_off, count_off, off_add, ← off_moved h s]
  by_cases m : s ∈ szA A
  · rw [(kinW_by A B hp s m).1]
  · have ea : offK A s = [] := by
      unfold offK
      rw [List.filter_eq_nil_iff.mpr fun p hp => ?_]
      · rfl
      · simp only [decide_eq_true_eq]
        exact fun e => m (szA_mem.mpr ⟨p, hp, e⟩)
    rw [ea]
    rfl
theorem kin_far {a b : List Int} (hb : Rising b) (h : barO (lists a) (lists b) = none) : farR a (kinW (lists a) (lists b)) = b := by
  refine farR_eq hb ?_
  have p := kin_perm (lists_posi a) h
  exact ((sortBy_perm (heap b)).symm.trans p.symm).trans (addL_perm (sortBy_perm (heap a)) _)
/-- kin's answer -/
def kinD (A B : List (Int × Int)) : D := (barO A B).getD (.tup [.str "walks", .lst ((kinW A B).map twoD)])
theorem barO_bare {A B : List (Int × Int)} {d : D} (h : barO A B = some d) : ∃ w s, d = barT w s := by
  unfold barO at h
  split at h
  · cases h; exact ⟨_, _, rfl⟩
  · split at h
    · cases h; exact ⟨_, _, rfl⟩
    · cases h
theorem size_leW {ps : List (Int × Int)} (h : Posi ps) {p : Int × Int} (hp : p ∈ ps) : p.1 ≤ weight ps := by
  induction ps with
  | nil => cases hp
  | cons a r ih =>
    have a1 := h a List.mem_cons_self
    have hr : Posi r := fun q hq => h q (List.mem_cons_of_mem _ hq)
    have e : ((weight (a :: r) : Nat) : Int) = a.1 + (weight r : Int) := by
      unfold weight
      simp
      omega
    rw [e]
    rcases List.mem_cons.mp hp with w | w
    · rw [w]; omega
    · have := ih hr w
      omega

theorem kin_ok (a b : List Int) (ha : Rising a) (hb : Rising b) (la : a.length ≤ 60) (lb : b.length ≤ 60) (hl : (lists a).length + (lists b).length ≤ 63) : f_kin [.lst (a.map D.int), .lst (b.map D.int)] = .ok (kinD (lists a) (lists b)) := by
  have r1 := look_row_ok a ha la
  have r2 := look_row_ok b hb lb
  have l1 := list_of_ok a (by omega)
  have l2 := list_of_ok b (by omega)
  have bo := bar_ok (lists a) (lists b) hl
  have z2 : (2 : Nat) ≤ szL := le_szL (by decide)
  cases q : barO (lists a) (lists b) with
  | some d =>
    obtain ⟨w, s, rfl⟩ := barO_bare q
    have e : kinD (lists a) (lists b) = barT w s := by unfold kinD; rw [q]; rfl
    rw [e]
    rw [q] at bo
    have bo' : f_bar_of [.lst ((lists a).map twoD), .lst ((lists b).map twoD)] = .ok (.tup [.str w, .int s]) := bo
    unfold barT
    generalize (lists a).map twoD = A at *
    generalize (lists b).map twoD = B at *
    generalize a.map D.int = x at *
    generalize b.map D.int = y at *
    simp [f_kin, m_kin, r1, r2, l1, l2, bo', D.scal]
  | none =>
    have e : kinD (lists a) (lists b) = .tup [.str "walks", .lst ((kinW (lists a) (lists b)).map twoD)] := by unfold kinD; rw [q]; rfl
    rw [e]
    rw [q] at bo
    have bo' : f_bar_of [.lst ((lists a).map twoD), .lst ((lists b).map twoD)] = .ok .non := bo
    have po := lists_posi a
    have sz : ∀ p ∈ lists a, p.1 ≤ 1000 := fun p hp => by
      have := size_leW po hp
      rw [lists_weight] at this
      omega
    have so := stepsL_ok (lists a) (lists b) po
    have st := steps_ok (lists a) (lists b) po sz (by omega) fun s hs z => by
      have n := (bars_none q s).1
      rw [z] at n
      exact offK_ne hs (List.eq_nil_of_length_eq_zero n)
    have pos : 1 ≤ (foL (lists a) (lists b)).length := so.pos
    have fl : (foL (lists a) (lists b)).length ≤ 2000 := by
      rcases so.last with ⟨_, e⟩ | ⟨s, hs, e⟩
      · unfold foL; rw [e]; simp
      · obtain ⟨p, hp1, e2⟩ := szA_mem.mp hs
        have := sz p hp1
        unfold foL
        omega
    have lF : (stepsF (lists a) (lists b)).length = (foL (lists a) (lists b)).length + 1 := by unfold stepsF; rw [List.length_append]; rfl
    have wb := wby_ok (stepsF (lists a) (lists b)) (kinM (lists a) (lists b)) (by unfold kinM; omega) (by omega)
    unfold kinW
    generalize (walksW (stepsF (lists a) (lists b)) (kinM (lists a) (lists b))).map twoD = W at *
    generalize (stepsF (lists a) (lists b)).map D.int = F at *
    generalize (lists a).map twoD = A at *
    generalize (lists b).map twoD = B at *
    generalize a.map D.int = x at *
    generalize b.map D.int = y at *
    simp [f_kin, m_kin, r1, r2, l1, l2, bo', st, wb, z2, D.scal, D.plain]

theorem stones_len : ∀ (n : Nat) {ps : List (Int × Int)}, Posi ps → weight ps ≤ n → (stonesD n ps).length = weight ps
  | 0, ps, h, w => by
    rw [weight_zero h (by omega)]
    rfl
  | n + 1, ps, h, w => by
    unfold stonesD
    by_cases e : ps = []
    · rw [if_pos e, e]
      rfl
    · have q := weight_shrink e h
      rw [if_neg e, List.length_cons, stones_len n (shrink_posi h (topP ps)) (by omega)]
      exact q
theorem lesser_ok (ps : List (Int × Int)) (s : Int) : f_lesser_L [.lst (ps.map twoD), .int s] = .ok (.int (share ps s)) := by
  have c : gComp (gIter (gVar 0)) (.tup [2, 3]) [2, 3] gYes (gCall fMin2 (VL.gCons (gVar 1) (VL.gCons (gVar 2) VL.gNil))) [some (.lst (ps.map twoD)), some (.int s), none, none] = .ok (.lst (ps.map fun p => D.int (if p.1 < s then p.1 else s))) :=
    gComp_map (F := twoD) rfl fun p _ => by simp [gTurn, twoD]
  simp [f_lesser_L, m_lesser_L, c, fSum_map, share]

theorem lesser_app (fr : List (Int × Int)) (a b s : Int) : f_lesser_L [.lst (fr.map twoD ++ [.tup [.int a, .int b]]), .int s] = .ok (.int (share fr s + lsr a s)) := by
  rw [app_pair, lesser_ok, share_app, share_cons]
  simp [share]
theorem lsr_self (a : Int) : lsr a a = a := by unfold lsr; split <;> omega

theorem pick4 (a b c d x : Int) : ∃ v : Int, (v = a ∨ v = b ∨ v = c ∨ v = d) ∧ dIdx (.lst [.int a, .int b, .int c, .int d]) (.int (x.fmod 4)) = .ok (.int v) := by
  have f := fmod_pos (a := x) (b := 4) (by decide)
  rcases (show x.fmod 4 = 0 ∨ x.fmod 4 = 1 ∨ x.fmod 4 = 2 ∨ x.fmod 4 = 3 by omega) with h | h | h | h <;> rw [h]
  · exact ⟨a, .inl rfl, dIdx_list (i := 0) rfl⟩
  · exact ⟨b, .inr (.inl rfl), dIdx_list (i := 1) rfl⟩
  · exact ⟨c, .inr (.inr (.inl rfl)), dIdx_list (i := 2) rfl⟩
  · exact ⟨d, .inr (.inr (.inr rfl)), dIdx_list (i := 3) rfl⟩
theorem app_ints (l : List Int) (x : Int) : l.map D.int ++ [D.int x] = (l ++ [x]).map D.int := by simp
theorem row_loop (l : List Int) (h : Drawn l) (M : D) : ∀ (n k : Nat) (p : Int) (acc : List Int) (a b : Option D), 3 + k + n ≤ l.length → acc.length + n ≤ 1000 → Rising acc → (∀ x ∈ acc, x ≤ p) → 3 ≤ l.length → (∀ x ∈ acc, -15 ≤ x) → -15 ≤ p → ∃ p' acc' a' b',
    forL (.one 4) b_row_L_1 ((List.range' k n).map fun (i : Nat) => D.int i) [some (.lst (l.map D.int)), some M, some (.int p), some (.lst (acc.map D.int)), a, b] =
      .nx [some (.lst (l.map D.int)), some M, some (.int p'), some (.lst (acc'.map D.int)), a', b'] ∧ acc'.length = acc.length + n ∧ Rising acc' ∧ (∀ x ∈ acc', x ≤ p') ∧ p' ≤ p + 12 * (n : Int) ∧ ∀ x ∈ acc', -15 ≤ x
  | 0, k, p, acc, a, b, _, _, h3, h4, _, h6, _ => ⟨p, acc, a, b, rfl, rfl, h3, h4, by omega, h6⟩
  | n + 1, k, p, acc, a, b, h1, h2, h3, h4, h5, h6, h7 => by
    obtain ⟨v, v1, v2, e1⟩ := drawn_get h (i := 3 + k) (by omega) (j := 3 + (k : Int)) (by omega)
    obtain ⟨w, w1, w2, e2⟩ := drawn_get h (i := 2) (by omega) (j := 2) rfl
    obtain ⟨m, hm, em⟩ := pick4 2 3 5 12 w
    have m0 : ¬ m = 0 := by omega
    have f := fmod_pos (a := v.fdiv 3) (b := m) (by omega)
    have hz : acc.length < szL := lt_szL (by omega)
    have key : ∃ p2, p < p2 ∧ p2 ≤ p + 12 ∧ b_row_L_1 [some (.lst (l.map D.int)), some M, some (.int p), some (.lst (acc.map D.int)), some (.int (k : Int)), b] =
        .nx [some (.lst (l.map D.int)), some M, some (.int p2), some (.lst ((acc ++ [p2]).map D.int)), some (.int (k : Int)), some (.int v)] := by
      by_cases c : v.fmod 3 = 0
      · refine ⟨p + 1 + 0, by omega, by omega, ?_⟩
        rw [← app_ints]
        simp [b_row_L_1, e1, e2, em, c, hz, -dIdx]
      · refine ⟨p + 1 + (v.fdiv 3).fmod m, by omega, by omega, ?_⟩
        rw [← app_ints]
        simp [b_row_L_1, e1, e2, em, c, hz, m0, -dIdx]
    obtain ⟨p2, lt, le12, eb⟩ := key
    obtain ⟨p', acc', a', b', f1, f2, f3, f4, f5, f6⟩ := row_loop l h M n (k + 1) p2 (acc ++ [p2]) (some (.int (k : Int))) (some (.int v)) (by omega) (by simp; omega)
      (List.pairwise_append.mpr ⟨h3, List.pairwise_singleton _ _, fun x hx y hy => by
        have : y = p2 := by simpa using hy
        subst this
        exact Int.lt_of_le_of_lt (h4 x hx) lt⟩) (fun x hx => by
        rcases List.mem_append.mp hx with z | z
        · exact Int.le_trans (h4 x z) (by omega)
        · have : x = p2 := by simpa using z
          omega) h5 (fun x hx => by
        rcases List.mem_append.mp hx with z | z
        · exact h6 x z
        · have : x = p2 := by simpa using z
          omega) (by omega)
    refine ⟨p', acc', a', b', ?_, by rw [f2]; simp; omega, f3, f4, by omega, f6⟩
    rw [List.range'_succ, List.map_cons, ← f1]
    show (match b_row_L_1 [some (.lst (l.map D.int)), some M, some (.int p), some (.lst (acc.map D.int)), some (.int (k : Int)), b] with
      | .nx r' => forL (.one 4) b_row_L_1 ((List.range' (k + 1) n).map fun (i : Nat) => D.int i) r'
      | o => o) = _
    rw [eb]
theorem row_okC (l : List Int) (h : Drawn l) (most : Nat) (hm : most ≤ 500) (hl : 3 + most ≤ l.length) : ∃ r : List Int, f_row_L [.lst (l.map D.int), .int most] = .ok (.lst (r.map D.int)) ∧ r.length ≤ most ∧ Rising r ∧ (∀ x ∈ r, x ≤ 15 + 12 * (most : Int)) ∧ ∀ x ∈ r, -15 ≤ x := by
  obtain ⟨v0, p0, q0, e0⟩ := drawn_get h (i := 0) (by omega) (j := 0) rfl
  obtain ⟨v1, p1, q1, e1⟩ := drawn_get h (i := 1) (by omega) (j := 1) rfl
  have f := fmod_pos (a := v1) (b := (most : Int) + 1) (by omega)
  have d := dRange1_nat (n := (v1.fmod ((most : Int) + 1)).toNat) (by omega)
  rw [Int.toNat_of_nonneg f.1, range_split] at d
  have f31 := fmod_pos (a := v0) (b := 31) (by decide)
  obtain ⟨p', acc', a', b', g1, g2, g3, g4, g5, g6⟩ := row_loop l h (.int most) (v1.fmod ((most : Int) + 1)).toNat 0 (v0.fmod 31 - 15) [] none none (by omega) (by simp; omega) List.Pairwise.nil (fun x hx => nomatch hx) (by omega) (fun x hx => nomatch hx) (by omega)
  refine ⟨acc', ?_, by rw [g2]; simp; omega, g3, (fun x hx => by have := g4 x hx; omega), g6⟩
  have g1' : forL (.one 4) b_row_L_1 ((List.range' 0 (v1.fmod ((most : Int) + 1)).toNat).map fun (i : Nat) => D.int i) [some (.lst (l.map D.int)), some (.int most), some (.int (v0.fmod 31 - 15)), some (.lst []), none, none] = _ := g1
  have m0 : ¬ (most : Int) + 1 = 0 := by omega
  generalize (List.range' 0 (v1.fmod ((most : Int) + 1)).toNat).map (fun (i : Nat) => D.int i) = rr at *
  generalize l.map D.int = ll at *
  simp [f_row_L, m_row_L, e0, e1, m0, d, g1', -dIdx]
theorem rising_shift {r : List Int} (h : Rising r) (by_ : Int) : Rising (r.map (· + by_)) := by
  refine List.pairwise_map.mpr (h.imp fun {a b} z => ?_)
  omega
theorem rising_cut {r : List Int} (h : Rising r) (k : Nat) (by_ : Int) (hb : 0 ≤ by_) : Rising (r.take k ++ (r.drop k).map (· + by_)) := by
  refine List.pairwise_append.mpr ⟨h.take, rising_shift h.drop by_, fun x hx y hy => ?_⟩
  obtain ⟨z, hz, rfl⟩ := List.mem_map.mp hy
  have e : Rising (r.take k ++ r.drop k) := by rw [List.take_append_drop]; exact h
  have := (List.pairwise_append.mp e).2.2 x hx z hz
  omega

theorem long_row_okC (l : List Int) (h : Drawn l) (most : Nat) (hm : most ≤ 500) (hl : 3 + most ≤ l.length) : ∃ r : List Int, f_long_row_L [.lst (l.map D.int), .int most] = .ok (.lst (r.map D.int)) ∧ r.length ≤ most ∧ Rising r ∧ (∀ x ∈ r, x ≤ 15 + 12 * (most : Int) + 10 ^ 40) ∧ ∀ x ∈ r, -15 ≤ x := by
  obtain ⟨r, e, hr1, hr2, hr3, hr4⟩ := row_okC l h most hm hl
  obtain ⟨v2, p2, q2, e2⟩ := drawn_get h (i := 2) (by omega) (j := 2) rfl
  have k3 := dPow_ok (a := 10) (k := 3) (by decide) (by decide)
  have k12 := dPow_ok (a := 10) (k := 12) (by decide) (by decide)
  have k40 := dPow_ok (a := 10) (k := 40) (by decide) (by decide)
  have g3 : (0 : Int) ≤ 10 ^ 3 := by decide
  have g12 : (0 : Int) ≤ 10 ^ 12 := by decide
  have g40 : (0 : Int) ≤ 10 ^ 40 := by decide
  have h3 : (10 : Int) ^ 3 ≤ 10 ^ 40 := by decide
  have h12 : (10 : Int) ^ 12 ≤ 10 ^ 40 := by decide
  generalize (10 : Int) ^ 3 = c3 at k3 g3 h3
  generalize (10 : Int) ^ 12 = c12 at k12 g12 h12
  generalize (10 : Int) ^ 40 = c40 at *
  have k3' : dPow (.int 10) (.int 3) = .ok (.int c3) := k3
  have k12' : dPow (.int 10) (.int 12) = .ok (.int c12) := k12
  have k40' : dPow (.int 10) (.int 40) = .ok (.int c40) := k40
  obtain ⟨by_, hb, eb⟩ := pick4 0 c3 c12 c40 (v2.fdiv 64)
  have f := fmod_pos (a := v2.fdiv 4) (b := (r.length : Int) + 1) (by omega)
  have m0 : ¬ (r.length : Int) + 1 = 0 := by omega
  obtain ⟨k, hk⟩ : ∃ k : Nat, (v2.fdiv 4).fmod ((r.length : Int) + 1) = k := ⟨_, (Int.toNat_of_nonneg f.1).symm⟩
  have c1 : cutL (r.map D.int) none (some (k : Int)) = (r.take k).map D.int := by rw [cutL_to, List.map_take]
  have c2 : cutL (r.map D.int) (some (k : Int)) none = (r.drop k).map D.int := by rw [cutL_from (k := k) (by simp; omega), List.map_drop]
  have g : gComp (gIter (gSl (gVar 2) (gPart (gVar 3)) gNoPart)) (.one 5) [5] gYes (gBin dAdd (gVar 5) (gVar 4)) [some (.lst (l.map D.int)), some (.int most), some (.lst (r.map D.int)), some (.int k), some (.int by_), none] = .ok (.lst ((r.drop k).map fun x => D.int (x + by_))) :=
    gComp_map (F := D.int) (by simp [c2]) fun x _ => by simp [gTurn]
  refine ⟨r.take k ++ (r.drop k).map (· + by_), ?_, by simp; omega, rising_cut hr2 k by_ (by omega), fun x hx => ?_, fun x hx => ?_⟩
  rotate_left
  · rcases List.mem_append.mp hx with z | z
    · have := hr3 x (List.mem_of_mem_take z)
      omega
    · obtain ⟨y, hy, rfl⟩ := List.mem_map.mp z
      have := hr3 y (List.mem_of_mem_drop hy)
      show y + by_ ≤ _
      omega
  · rcases List.mem_append.mp hx with z | z
    · exact hr4 x (List.mem_of_mem_take z)
    · obtain ⟨y, hy, rfl⟩ := List.mem_map.mp z
      have := hr4 y (List.mem_of_mem_drop hy)
      show -15 ≤ y + by_
      omega
  have fin : (r.take k ++ (r.drop k).map (· + by_)).map D.int = (r.take k).map D.int ++ (r.drop k).map fun x => D.int (x + by_) := by
    rw [List.map_append, List.map_map]
    rfl
  have lz : ((r.take k).map D.int).length + ((r.drop k).map fun x => D.int (x + by_)).length ≤ szL := le_szL (by simp; omega)
  rw [fin]
  generalize (r.drop k).map (fun x => D.int (x + by_)) = dd at *
  generalize (r.take k).map D.int = tt at *
  generalize l.map D.int = ll at *
  simp [f_long_row_L, m_long_row_L, e, e2, eb, k3', k12', k40', m0, hk, c1, g, lz, -dIdx]
theorem long_row_okB (l : List Int) (h : Drawn l) (most : Nat) (hm : most ≤ 500) (hl : 3 + most ≤ l.length) : ∃ r : List Int, f_long_row_L [.lst (l.map D.int), .int most] = .ok (.lst (r.map D.int)) ∧ r.length ≤ most ∧ Rising r ∧ ∀ x ∈ r, x ≤ 15 + 12 * (most : Int) + 10 ^ 40 := by
  obtain ⟨r, h1, h2, h3, h4, _⟩ := long_row_okC l h most hm hl
  exact ⟨r, h1, h2, h3, h4⟩
theorem long_row_ok (l : List Int) (h : Drawn l) (most : Nat) (hm : most ≤ 500) (hl : 3 + most ≤ l.length) : ∃ r : List Int, f_long_row_L [.lst (l.map D.int), .int most] = .ok (.lst (r.map D.int)) ∧ r.length ≤ most ∧ Rising r := by
  obtain ⟨r, h1, h2, h3, _⟩ := long_row_okB l h most hm hl
  exact ⟨r, h1, h2, h3⟩

theorem pow_ok1 : dPow (.int 10) (.int 18) = .ok (.int 1000000000000000000) := dPow_ok (k := 18) (by decide) (by decide)
theorem range60 : dRange1 (.int 60) = .ok ((List.range 60).map fun (i : Nat) => D.int i) := dRange1_nat (n := 60) (by decide)
theorem len60 : ((List.range 60).map fun (i : Nat) => D.int i).length = 60 := by simp
theorem numbers_in (s m : D) (c : Option D) : ∀ (js : List D) (acc : List Int) (rest : Int) (seed : Option D) (k : Option D), acc.length + js.length ≤ 200000 → Drawn acc → ∃ acc' rest' k',
    forL (.one 6) b_numbers_L_1 js [some s, some m, some (.lst (acc.map D.int)), seed, c, some (.int rest), k] = .nx [some s, some m, some (.lst (acc'.map D.int)), seed, c, some (.int rest'), k'] ∧ acc'.length ≤ acc.length + js.length ∧ Drawn acc'
  | [], acc, rest, seed, k, h1, h2 => ⟨acc, rest, k, rfl, by simp, h2⟩
  | j :: js, acc, rest, seed, k, h1, h2 => by
    rw [List.length_cons] at h1
    by_cases hr : 0 < rest
    · have f := fmod_pos (a := rest) (b := 1013) (by decide)
      obtain ⟨acc', rest', k', e1, e2, e3⟩ := numbers_in s m c js (acc ++ [rest.fmod 1013]) (rest.fdiv 1013) seed (some j) (by simp; omega) (h2.snoc f.1 (by omega))
      refine ⟨acc', rest', k', ?_, by simp at e2; rw [List.length_cons]; omega, e3⟩
      have hz : acc.length < szL := by exact lt_szL (by omega)
      have b : b_numbers_L_1 [some s, some m, some (.lst (acc.map D.int)), seed, c, some (.int rest), some j] = .nx [some s, some m, some (.lst ((acc ++ [rest.fmod 1013]).map D.int)), seed, c, some (.int (rest.fdiv 1013)), some j] := by
        simp [b_numbers_L_1, hr, hz]
      rw [← e1]
      simp [forL, b]
    · obtain ⟨acc', rest', k', e1, e2, e3⟩ := numbers_in s m c js acc rest seed (some j) (by omega) h2
      refine ⟨acc', rest', k', ?_, by rw [List.length_cons]; omega, e3⟩
      have b : b_numbers_L_1 [some s, some m, some (.lst (acc.map D.int)), seed, c, some (.int rest), some j] = .nx [some s, some m, some (.lst (acc.map D.int)), seed, c, some (.int rest), some j] := by
        simp [b_numbers_L_1, hr]
      rw [← e1]
      simp [forL, b]
theorem numbers_s1 (seed d : Int) (s m a x k : Option D) (hmul : mulOk seed 40014 = true) : mSet 3 (gBin dMod (gBin dAdd (gBin dAdd (gBin dMul (gVar 3) (gC (.int 40014))) (gBin dMod (gVar 4) (gC (.int 999983)))) (gC (.int 29))) (gC (.int 2147483563))) [s, m, a, some (.int seed), some (.int d), x, k] =
    .nx [s, m, a, some (.int ((seed * 40014 + d.fmod 999983 + 29).fmod 2147483563)), some (.int d), x, k] := by
  simp [hmul]
theorem numbers_s2 (d C18 : Int) (s m a sd x k : Option D) (p18 : dPow (.int 10) (.int 18) = .ok (.int C18)) : mSet 5 (gBin dSub (gVar 4) (gBin dPow (gC (.int 10)) (gC (.int 18)))) [s, m, a, sd, some (.int d), x, k] = .nx [s, m, a, sd, some (.int d), some (.int (d - C18)), k] := by
  simp [p18]
theorem numbers_s3 (d x : Int) (s m sd k : Option D) (acc : List Int) (hz : acc.length < szL) : mIf (gTest (gBin dLt (gVar 5) (gC (.int 0)))) (mSeq (mApp 2 (gBin dMod (gVar 4) (gC (.int 9967)))) mNil) mNil [s, m, some (.lst (acc.map D.int)), sd, some (.int d), some (.int x), k] =
    .nx [s, m, some (.lst ((if x < 0 then acc ++ [d.fmod 9967] else acc).map D.int)), sd, some (.int d), some (.int x), k] := by
  by_cases h : x < 0 <;> simp [h, hz]
theorem numbers_step (s m : D) (acc : List Int) (seed d : Int) (x k : Option D) (hmul : mulOk seed 40014 = true) (hz : acc.length < szL) (h2 : Drawn acc) (fd : 0 ≤ d.fmod 9967 ∧ d.fmod 9967 < 9967) :
    ∃ acc1, acc1.length ≤ acc.length + 1 ∧ Drawn acc1 ∧ ∀ a1 r1 k1, forL (.one 6) b_numbers_L_1 (((List.range 60).map fun (i : Nat) => D.int i)) [some s, some m, some (.lst (acc1.map D.int)), some (.int ((seed * 40014 + d.fmod 999983 + 29).fmod 2147483563)), some (.int d), some (.int (d - 1000000000000000000)), k] = .nx [some s, some m, some (.lst (List.map D.int a1)), some (.int ((seed * 40014 + d.fmod 999983 + 29).fmod 2147483563)), some (.int d), some (.int r1), k1] →
        b_numbers_L_2 [some s, some m, some (.lst (acc.map D.int)), some (.int seed), some (.int d), x, k] = .nx [some s, some m, some (.lst (List.map D.int a1)), some (.int ((seed * 40014 + d.fmod 999983 + 29).fmod 2147483563)), some (.int d), some (.int r1), k1] := by
  refine ⟨if d - 1000000000000000000 < 0 then acc ++ [d.fmod 9967] else acc, ?_, ?_, fun a1 r1 k1 e1 => ?_⟩
  · split <;> simp
  · split
    · exact h2.snoc fd.1 fd.2
    · exact h2
  · unfold b_numbers_L_2
    rw [seq_nx (numbers_s1 _ _ _ _ _ _ _ hmul), seq_nx (numbers_s2 _ _ _ _ _ _ _ _ pow_ok1), seq_nx (numbers_s3 _ _ _ _ _ _ _ hz)]
    have e2 : mFor (gRange1 (gC (.int 60))) (.one 6) b_numbers_L_1 [some s, some m, some (.lst ((if d - 1000000000000000000 < 0 then acc ++ [d.fmod 9967] else acc).map D.int)), some (.int ((seed * 40014 + d.fmod 999983 + 29).fmod 2147483563)), some (.int d), some (.int (d - 1000000000000000000)), k] = .nx [some s, some m, some (.lst (List.map D.int a1)), some (.int ((seed * 40014 + d.fmod 999983 + 29).fmod 2147483563)), some (.int d), some (.int r1), k1] := by
      show onR (dRange1 (.int 60)) _ _ = _
      rw [range60]
      exact e1
    rw [seq_nx e2]
    rfl
theorem numbers_out (s m : D) : ∀ (ds : List Int) (acc : List Int) (seed : Int) (c x k : Option D), acc.length + 61 * ds.length ≤ 100000 → Drawn acc → 0 ≤ seed → seed < 2147483563 → ∃ acc' seed' c' x' k',
    forL (.one 4) b_numbers_L_2 (ds.map D.int) [some s, some m, some (.lst (acc.map D.int)), some (.int seed), c, x, k] =
      .nx [some s, some m, some (.lst (acc'.map D.int)), some (.int seed'), c', x', k'] ∧ acc'.length ≤ acc.length + 61 * ds.length ∧ Drawn acc' ∧ 0 ≤ seed' ∧ seed' < 2147483563
  | [], acc, seed, c, x, k, h1, h2, h3, h4 => ⟨acc, seed, c, x, k, rfl, by simp, h2, h3, h4⟩
  | d :: ds, acc, seed, c, x, k, h1, h2, h3, h4 => by
    rw [List.length_cons] at h1
    have fs := fmod_pos (a := seed * 40014 + d.fmod 999983 + 29) (b := 2147483563) (by decide)
    have fd := fmod_pos (a := d) (b := 9967) (by decide)
    have hmul : mulOk seed 40014 = true := mulOk_right (by decide) (by decide)
    have hz : acc.length < szL := by exact lt_szL (by omega)
    obtain ⟨acc1, l1, d1, kk⟩ := numbers_step s m acc seed d x k hmul hz h2 fd
    obtain ⟨a1, r1, k1, e1, e2, e3⟩ := numbers_in s m (some (.int d)) (((List.range 60).map fun (i : Nat) => D.int i)) acc1 (d - 1000000000000000000) (some (.int ((seed * 40014 + d.fmod 999983 + 29).fmod 2147483563))) k (by rw [len60]; omega) d1
    rw [len60] at e2
    obtain ⟨a2, s2, c2, x2, k2, f1, f2, f3, f4, f5⟩ := numbers_out s m ds a1 _ (some (.int d)) (some (.int r1)) k1 (by omega) e3 fs.1 fs.2
    refine ⟨a2, s2, c2, x2, k2, ?_, by rw [List.length_cons]; omega, f3, f4, f5⟩
    rw [← f1]
    have b := kk a1 r1 k1 e1
    show (match b_numbers_L_2 [some s, some m, some (.lst (acc.map D.int)), some (.int seed), some (.int d), x, k] with
      | .nx r' => forL (.one 4) b_numbers_L_2 (ds.map D.int) r'
      | o => o) = _
    rw [b]
theorem sIx_hi (n k : Nat) : HT.sIx n n (some (k : Int)) = min k n := HT.sIx_nat n n k
theorem numbers_ok (ns : List Int) (hn : ns.length ≤ 63) (many : Nat) (hm : many ≤ 2000) : ∃ l : List Int, f_numbers_L [.scr ns, .int many] = .ok (.lst (l.map D.int)) ∧ l.length = many ∧ Drawn l := by
  have hc : (cutL ns none (some 63)).length ≤ 63 := by
    unfold cutL
    rw [List.length_take, List.length_drop]
    omega
  obtain ⟨a1, s1, c1, x1, k1, e1, e2, e3, e4, e5⟩ := numbers_out (.scr ns) (.int many) (cutL ns none (some 63)) [] 59 none none none (by simp; omega) (fun d hd => nomatch hd) (by decide) (by decide)
  rw [List.length_nil] at e2
  -- the filling up
  obtain ⟨r', w1, ⟨acc, seed, rfl, w2, w3, w4, w5⟩, w6⟩ := whileL_inv (fun r => ∃ (acc : List Int) (seed : Int), r = [some (.scr ns), some (.int many), some (.lst (acc.map D.int)), some (.int seed), c1, x1, k1] ∧ acc.length ≤ 6000 ∧ Drawn acc ∧ 0 ≤ seed ∧ seed < 2147483629)
    (fun r => match r with
      | [_, _, some (.lst a), _, _, _, _] => many - a.length
      | _ => 0) (tc := gTest (gBin dLt (gCall fLen (gCons (gVar 2) gNil)) (gVar 1))) (mb := b_numbers_L_3) (fun r ⟨acc, seed, e, h1, h2, h3, h4⟩ => by
      subst e
      refine ⟨decide ((acc.length : Int) < many), by simp, fun hb => ?_⟩
      have hb' : acc.length < many := by
        have := of_decide_eq_true hb
        omega
      have m1 : mulOk seed seed = true := mulOk_left (by omega) (by omega)
      have m2 : mulOk 52774 seed = true := mulOk_left (by decide) (by decide)
      have m3 : mulOk 13 (acc.length : Int) = true := mulOk_left (by decide) (by decide)
      have hz : acc.length < szL := by exact lt_szL (by omega)
      have f1 := fmod_pos (a := seed * seed + 52774 * seed + 13 * acc.length + 7) (b := 2147483629) (by decide)
      have f2 := fmod_pos (a := ((seed * seed + 52774 * seed + 13 * acc.length + 7).fmod 2147483629).fdiv 1019) (b := 9967) (by decide)
      refine ⟨[some (.scr ns), some (.int many), some (.lst ((acc ++ [(((seed * seed + 52774 * seed + 13 * acc.length + 7).fmod 2147483629).fdiv 1019).fmod 9967]).map D.int)), some (.int ((seed * seed + 52774 * seed + 13 * acc.length + 7).fmod 2147483629)), c1, x1, k1], ?_, ⟨_, _, rfl, by simp; omega, h2.snoc f2.1 f2.2, f1.1, f1.2⟩, ?_⟩
      · simp [b_numbers_L_3, m1, m2, m3, hz]
      · simp
        omega) WB [some (.scr ns), some (.int many), some (.lst (a1.map D.int)), some (.int s1), c1, x1, k1] ⟨a1, s1, rfl, by omega, e3, e4, by omega⟩ (by
      rw [WB_eq]
      show many - _ < 100000
      omega)
  have w7 : ¬ acc.length < many := by
    simp at w6
    omega
  refine ⟨acc.take many, ?_, by rw [List.length_take]; omega, fun d hd => w3 d (List.mem_of_mem_take hd)⟩
  have hcut : cutL (acc.map D.int) none (some (many : Int)) = (acc.take many).map D.int := by
    unfold cutL
    rw [HT.sIx_none, sIx_hi, List.drop_zero, Nat.sub_zero, List.map_take, List.length_map, Nat.min_eq_left (by omega)]
  have e1' : forL (.one 4) b_numbers_L_2 ((cutL ns none (some 63)).map D.int) [some (.scr ns), some (.int (many : Int)), some (.lst []), some (.int 59), none, none, none] = _ := e1
  simp [f_numbers_L, m_numbers_L, e1', w1, hcut, le_szL (n := 0) (by decide)]

def lowR (r : List Int) : Int := if r = [] then 0 else lmin r
def topR (r : List Int) : Int := if r = [] then 0 else lmax r
theorem fMaxD_ok (r : List Int) : fMaxD (.lst (r.map D.int)) (.int 0) = .ok (.int (topR r)) := by
  dsimp only [fMaxD]
  rw [intsOf_map]
  unfold topR
  dsimp only
  split <;> rfl
theorem low_le {r : List Int} {x : Int} (h : x ∈ r) : lowR r ≤ x ∧ x ≤ topR r := by
  have n : r ≠ [] := fun z => by rw [z] at h; cases h
  unfold lowR topR
  rw [if_neg n, if_neg n]
  exact ⟨lmin_le h, lmax_le h⟩
theorem all_true : ∀ (l : List Nat), blsOf (l.map fun _ => D.bl true) = some (l.map fun _ => true)
  | [] => rfl
  | _ :: l => by
    show (blsOf (l.map fun _ => D.bl true)).map _ = _
    rw [all_true l]
    rfl
theorem fAll_true (l : List Nat) : fAll [.lst (l.map fun _ => D.bl true)] = .ok (.bl true) := by
  dsimp only [fAll]
  rw [all_true]
  simp
theorem same_refl : ∀ (n : Nat) (d : D), n ≤ 64 → pl n d = true → f_same_L n [d, d] = .ok (.bl true)
  | 0, _, _, h => by cases h
  | n + 1, .non, _, _ => by simp [f_same_L, m_same_L]
  | n + 1, .bl b, hn, h => by simp [f_same_L, m_same_L]
  | n + 1, .int i, hn, h => by simp [f_same_L, m_same_L]
  | n + 1, .str x, hn, h => by simp [f_same_L, m_same_L, dEq_self hn h]
  | _ + 1, .dct _, _, h => by cases h
  | _ + 1, .obj _ _, _, h => by cases h
  | _ + 1, .scr _, _, h => by cases h
  | n + 1, .lst xs, hn, h => by
    have q : (xs.all (pl n) && decide (xs.length ≤ szL)) = true := h
    obtain ⟨q1, q2⟩ := Bool.and_eq_true_iff.mp q
    have hl : xs.length ≤ szL := of_decide_eq_true q2
    have c : gComp (gRange1 (gCall fLen (VL.gCons (gVar 1) VL.gNil))) (.one 2) [2] gYes (gCall (f_same_L n) (VL.gCons (gBin dIdx (gVar 0) (gVar 2)) (VL.gCons (gBin dIdx (gVar 1) (gVar 2)) VL.gNil))) [some (.lst xs), some (.lst xs), none] = .ok (.lst ((List.range xs.length).map fun _ => D.bl true)) := by
      refine gComp_map (F := fun (i : Nat) => D.int i) ?_ fun i hi => ?_
      · show dRange1 (.int (xs.length : Int)) = _
        exact dRange1_nat (by rw [szL_val] at hl; exact hl)
      · have hi' : i < xs.length := List.mem_range.mp hi
        have e : xs[i]? = some xs[i] := by simp [hi']
        have s := same_refl n xs[i] (by omega) (List.all_eq_true.mp q1 _ (List.getElem_mem hi'))
        simp [gTurn, dIdx_list e, s, -dIdx]
    simp [f_same_L, m_same_L, c, fAll_true]
  | n + 1, .tup xs, hn, h => by
    have q : (xs.all (pl n) && decide (xs.length ≤ szL)) = true := h
    obtain ⟨q1, q2⟩ := Bool.and_eq_true_iff.mp q
    have hl : xs.length ≤ szL := of_decide_eq_true q2
    have c : gComp (gRange1 (gCall fLen (VL.gCons (gVar 1) VL.gNil))) (.one 2) [2] gYes (gCall (f_same_L n) (VL.gCons (gBin dIdx (gVar 0) (gVar 2)) (VL.gCons (gBin dIdx (gVar 1) (gVar 2)) VL.gNil))) [some (.tup xs), some (.tup xs), none] = .ok (.lst ((List.range xs.length).map fun _ => D.bl true)) := by
      refine gComp_map (F := fun (i : Nat) => D.int i) ?_ fun i hi => ?_
      · show dRange1 (.int (xs.length : Int)) = _
        exact dRange1_nat (by rw [szL_val] at hl; exact hl)
      · have hi' : i < xs.length := List.mem_range.mp hi
        have e : xs[i]? = some xs[i] := by simp [hi']
        have s := same_refl n xs[i] (by omega) (List.all_eq_true.mp q1 _ (List.getElem_mem hi'))
        simp [gTurn, dIdx_tup e, s, -dIdx]
    simp [f_same_L, m_same_L, c, fAll_true]

theorem same_ints (r : List Int) (hz : r.length ≤ 1000) : f_same_L 8 [.lst (r.map D.int), .lst (r.map D.int)] = .ok (.bl true) := same_refl 8 _ (by decide) (pl_ints (n := 6) (le_szL (by omega)))
theorem stonesL_step (ps : List (Int × Int)) (n : ps ≠ []) (hz : ps.length < 900) (acc : List Int) (ha : acc.length < 20000) (R0 a b c d : Option D) : ∃ b' c' d', b_stones_L_1 [R0, some (.lst (ps.map twoD)), some (.lst (acc.map D.int)), a, b, c, d] =
    .nx [R0, some (.lst ((shrink ps (topP ps)).map twoD)), some (.lst ((acc ++ [topP ps]).map D.int)), some (.int (topP ps)), b', c', d'] := by
  have c1 : gComp (gIter (gVar 1)) (.tup [4, 5]) [4, 5] gYes (gBin dAdd (gVar 5) (gBin dMul (gC (.int 2)) (gCall f_lesser_L (VL.gCons (gVar 1) (VL.gCons (gVar 4) VL.gNil))))) [R0, some (.lst (ps.map twoD)), some (.lst (acc.map D.int)), a, b, c, d] = .ok (.lst (ps.map fun p => D.int (vac ps p))) :=
    gComp_map (F := twoD) rfl fun p _ => by simp [gTurn, twoD, lesser_ok, mul2, vac]
  have e : (ps.map fun p => D.int (vac ps p)) = (ps.map (vac ps)).map D.int := by rw [List.map_map]; rfl
  rw [e] at c1
  have m1 := fMax1_ints (l := ps.map (vac ps)) (by simpa using n)
  have m1' : fMax1 [.lst ((ps.map (vac ps)).map D.int)] = .ok (.int (topP ps)) := m1
  have c2 := gComp_filter (gi := gIter (gVar 1)) (t := .tup [6, 5]) (vs := [6, 5]) (tt := gTest (gBin dEq (gBin dAdd (gVar 5) (gBin dMul (gC (.int 2)) (gCall f_lesser_L (VL.gCons (gVar 1) (VL.gCons (gVar 6) VL.gNil))))) (gVar 3))) (ge := gVar 6)
    (r := [R0, some (.lst (ps.map twoD)), some (.lst (acc.map D.int)), some (.int (topP ps)), b, c, d]) (l := ps) (F := twoD) (p := fun p => vac ps p == topP ps) (G := fun p => D.int p.1) rfl (fun p _ => by
      by_cases v : vac ps p = topP ps
      · have v' : p.2 + 2 * share ps p.1 = topP ps := v
        simp [gTurn, twoD, lesser_ok, mul2, v, v']
      · have v' : ¬ p.2 + 2 * share ps p.1 = topP ps := v
        simp [gTurn, twoD, lesser_ok, mul2, v, v'])
  have e2 : ((ps.filter fun p => vac ps p == topP ps).map fun p => D.int p.1) = (ripes ps (topP ps)).map D.int := by unfold ripes; rw [List.map_map]; rfl
  rw [e2] at c2
  have m2 := fMin1_ints (top_some n)
  have m2' : fMin1 [.lst ((ripes ps (topP ps)).map D.int)] = .ok (.int (shortest ps (topP ps))) := m2
  have rm := remL_ok (x := (shortest ps (topP ps), topP ps - 2 * share ps (shortest ps (topP ps)))) (short_mem n) (le_szL (by omega))
  have l1 : (rest ps (topP ps)).length < szL := lt_szL (Nat.lt_of_le_of_lt List.length_erase_le (by omega))
  have l2 : acc.length < szL := lt_szL (by omega)
  refine ⟨some (.int (shortest ps (topP ps))), c, d, ?_⟩
  unfold shrink
  unfold rest at *
  generalize (ps.map (vac ps)).map D.int = v1 at *
  generalize (ripes ps (topP ps)).map D.int = v2 at *
  generalize topP ps = t at *
  generalize shortest ps t = s at *
  generalize ps.erase (s, t - 2 * share ps s) = fr at *
  by_cases cs : 1 < s
  · have ar : share fr (s - 1) + s - 1 = share fr (s - 1) + lsr (s - 1) (s - 1) := by rw [lsr_self]; omega
    rw [if_pos cs, ← app_pair, ar]
    simp [b_stones_L_1, c1, m1', c2, m2', lesser_ok, rm, cs, lesser_app, mul2, l1, l2, ixN_snoc, set_last, noX]
  · rw [if_neg cs]
    simp [b_stones_L_1, c1, m1', c2, m2', lesser_ok, rm, cs, mul2, l2]
theorem stonesL_loop : ∀ (n : Nat) (m : Nat) (ps : List (Int × Int)) (acc : List Int) (R0 a b c d : Option D), Posi ps → weight ps ≤ n → ps.length < 900 → n < m → acc.length + n ≤ 10000 →
    ∃ a' b' c' d', whileL (gTest (gBin dNe (gVar 1) (gLst VL.gNil))) b_stones_L_1 m [R0, some (.lst (ps.map twoD)), some (.lst (acc.map D.int)), a, b, c, d] = .nx [R0, some (.lst []), some (.lst ((acc ++ stonesD n ps).map D.int)), a', b', c', d']
  | n, 0, _, _, _, _, _, _, _, _, _, _, h, _ => by omega
  | 0, m + 1, ps, acc, R0, a, b, c, d, hp, w, hl, _, _ => by
    have e := weight_zero hp (by omega)
    subst e
    have t : dNe (.lst []) (.lst []) = .ok (.bl false) := ne_nil_two [] (by decide)
    refine ⟨a, b, c, d, ?_⟩
    rw [whileL_fin (by simp [t])]
    simp [stonesD]
  | n + 1, m + 1, ps, acc, R0, a, b, c, d, hp, w, hl, hm, ha => by
    have t := ne_nil_two ps (by omega)
    by_cases e : ps = []
    · subst e
      have t' : dNe (.lst []) (.lst []) = .ok (.bl false) := t
      refine ⟨a, b, c, d, ?_⟩
      rw [whileL_fin (by simp [t'])]
      simp [stonesD]
    · have ws := weight_shrink e hp
      have sl := shrink_len ps e
      obtain ⟨b1, c1, d1, st⟩ := stonesL_step ps e (by omega) acc (by omega) R0 a b c d
      obtain ⟨a', b', c', d', ih⟩ := stonesL_loop n m (shrink ps (topP ps)) (acc ++ [topP ps]) R0 (some (.int (topP ps))) b1 c1 d1 (shrink_posi hp _) (by omega) (by omega) (by omega) (by simp; omega)
      refine ⟨a', b', c', d', ?_⟩
      rw [whileL_turn (by simp [t, e]) st, ih]
      rw [stonesD_succ, if_neg e, List.append_assoc]
      rfl
theorem stones_L_ok (ps : List (Int × Int)) (h : Posi ps) (w : weight ps ≤ 5000) (hl : ps.length < 900) : f_stones_L [.lst (ps.map twoD)] = .ok (.lst ((stones ps).map D.int)) := by
  obtain ⟨a, b, c, d, e⟩ := stonesL_loop (weight ps) WB ps [] (some (.lst (ps.map twoD))) none none none none h (Nat.le_refl _) hl (by rw [WB_eq]; omega) (by simp; omega)
  rw [List.nil_append] at e
  have e' : whileL (gTest (gBin dNe (gVar 1) (gLst VL.gNil))) b_stones_L_1 WB [some (.lst (ps.map twoD)), some (.lst (ps.map twoD)), some (.lst []), none, none, none, none] = _ := e
  simp [f_stones_L, m_stones_L, e', stones, List.map_reverse]

theorem stones_length (ps : List (Int × Int)) (h : Posi ps) : (stones ps).length = weight ps := by
  unfold stones
  rw [List.length_reverse]
  exact stones_len (weight ps) h (Nat.le_refl _)
theorem pl_str (n : Nat) (x : Str) (h : (PyData.str x).canLay0 = true) (h2 : x.length ≤ 1000) : pl (n + 1) (.str x) = true := by
  show ((PyData.str x).canLay0 && decide (x.length ≤ szL)) = true
  rw [h, decide_eq_true (le_szL (by omega))]
  rfl
theorem ten_loop : ∀ (l : List D) (n : D) (v : Int) (k : Option D), ∃ k', forL (.one 2) b_ten_L_1 l [some n, some (.int v), k] = .nx [some n, some (.int (v * 10 ^ l.length)), k']
  | [], n, v, k => ⟨k, by simp [forL]⟩
  | d :: l, n, v, k => by
    obtain ⟨k', e⟩ := ten_loop l n (v * 10) (some d)
    have m : mulOk v 10 = true := mulOk_right (by decide) (by decide)
    refine ⟨k', ?_⟩
    have b : b_ten_L_1 [some n, some (.int v), some d] = .nx [some n, some (.int (v * 10)), some d] := by simp [b_ten_L_1, m]
    have p : v * 10 * 10 ^ l.length = v * 10 ^ (l.length + 1) := by
      rw [Int.pow_succ, Int.mul_assoc, Int.mul_comm 10]
    rw [p] at e
    show (match b_ten_L_1 [some n, some (.int v), some d] with
      | .nx r' => forL (.one 2) b_ten_L_1 l r'
      | o => o) = _
    rw [b, List.length_cons]
    exact e
theorem ten_ok (n : Nat) (hn : n ≤ 10000) : f_ten_L [.int n] = .ok (.int (10 ^ n)) := by
  have r : dRange1 (.int (n : Int)) = _ := dRange1_nat (by omega)
  obtain ⟨k', e⟩ := ten_loop ((List.range n).map fun (i : Nat) => D.int i) (.int n) 1 none
  rw [List.length_map, List.length_range, Int.one_mul] at e
  simp [f_ten_L, m_ten_L, r, e]

theorem ripes_comp (ps : List (Int × Int)) (q : Int) (R0 x y z : Option D) : gComp (gIter (gVar 1)) (.tup [4, 5]) [4, 5] (gTest (gBin dEq (gVar 5) (gBin dSub (gBin dSub (gVar 2) (gC (.int 1))) (gBin dMul (gC (.int 2)) (gCall f_lesser_L (VL.gCons (gVar 1) (VL.gCons (gVar 4) VL.gNil))))))) (gVar 4) [R0, some (.lst (ps.map twoD)), some (.int q), x, y, z] = .ok (.lst ((ripes ps (q - 1)).map D.int)) := by
  have c := gComp_filter (gi := gIter (gVar 1)) (t := .tup [4, 5]) (vs := [4, 5]) (tt := gTest (gBin dEq (gVar 5) (gBin dSub (gBin dSub (gVar 2) (gC (.int 1))) (gBin dMul (gC (.int 2)) (gCall f_lesser_L (VL.gCons (gVar 1) (VL.gCons (gVar 4) VL.gNil))))))) (ge := gVar 4)
    (r := [R0, some (.lst (ps.map twoD)), some (.int q), x, y, z]) (l := ps) (F := twoD) (p := fun p => vac ps p == q - 1) (G := fun p => D.int p.1) rfl (fun p _ => by
      have v := vac_iff ps p (q - 1)
      by_cases c : p.2 = q - 1 - 2 * share ps p.1
      · simp [gTurn, twoD, lesser_ok, mul2, c, v.mp c]
      · have c3 : ¬ vac ps p = q - 1 := fun z => c (v.mpr z)
        simp [gTurn, twoD, lesser_ok, mul2, c, c3])
  rw [c]
  simp [ripes]
theorem fMaxD_ripes (ps : List (Int × Int)) (q : Int) : fMaxD (.lst ((ripes ps q).map D.int)) (.int 0) = .ok (.int (longest ps q)) := by
  dsimp only [fMaxD]
  rw [intsOf_map]
  unfold longest
  dsimp only
  split <;> rfl
theorem list_step (s : List (Int × Int)) (p : Int) (h1 : Posi s) (hz : s.length < 600) (R0 a b c : Option D) : ∃ a' b' c', b_list_L_1 [R0, some (.lst (s.map twoD)), some (.int p), a, b, c] = .nx [R0, some (.lst ((grow s p).map twoD)), some (.int p), a', b', c'] := by
  have cc := ripes_comp s p R0 a b c
  have mx := fMaxD_ripes s (p - 1)
  refine ⟨some (.lst ((ripes s (p - 1)).map D.int)), some (.int (longest s (p - 1))), c, ?_⟩
  generalize (ripes s (p - 1)).map D.int = rp at *
  by_cases c0 : 0 < longest s (p - 1)
  · have rm := remL_ok (x := (longest s (p - 1), p - 1 - 2 * share s (longest s (p - 1)))) (longest_mem c0) (le_szL (by omega))
    have l1 : (s.erase (longest s (p - 1), p - 1 - 2 * share s (longest s (p - 1)))).length < szL := lt_szL (Nat.lt_of_le_of_lt List.length_erase_le (by omega))
    unfold grow
    rw [if_pos c0]
    generalize longest s (p - 1) = L at *
    generalize s.erase (L, p - 1 - 2 * share s L) = fr at *
    have ar : share fr (L + 1) + L + 1 = share fr (L + 1) + lsr (L + 1) (L + 1) := by rw [lsr_self]; omega
    rw [← app_pair, ar]
    simp [b_list_L_1, cc, mx, c0, lesser_ok, rm, lesser_app, mul2, l1, ixN_snoc, set_last, noX]
  · have l1 : s.length < szL := lt_szL (by omega)
    unfold grow
    rw [if_neg c0]
    generalize longest s (p - 1) = L at *
    have ar : share s (L + 1) + L + 1 = share s (L + 1) + lsr (L + 1) (L + 1) := by rw [lsr_self]; omega
    rw [← app_pair, ar]
    simp [b_list_L_1, cc, mx, c0, lesser_ok, lesser_app, mul2, l1, ixN_snoc, set_last, noX]
theorem list_L_ok (r : List Int) (hl : r.length ≤ 500) : f_list_L [.lst (r.map D.int)] = .ok (.lst ((lists r).map twoD)) := by
  obtain ⟨r', e, _, _, a, b, c, d, hr⟩ := forL_foldI D.int grow (fun n s t => Posi s ∧ s.length ≤ n ∧ ∃ a b c d, t = [some (.lst (r.map D.int)), some (.lst (s.map twoD)), a, b, c, d]) (.one 2) b_list_L_1 r 0 [] [some (.lst (r.map D.int)), some (.lst []), none, none, none, none] ⟨fun p hp => (nomatch hp), by simp, none, none, none, none, rfl⟩ (fun i p hi hp s t ⟨h1, h2, a, b, c, d, e⟩ => by
    subst e
    obtain ⟨a', b', c', e⟩ := list_step s p h1 (by omega) (some (.lst (r.map D.int))) b c d
    exact ⟨[.int p], _, rfl, e, grow_posi h1 p, by have := grow_len s p; omega, _, _, _, _, rfl⟩)
  subst hr
  have hs : fSorted [.lst ((r.foldl grow []).map twoD)] = _ := heap_sorted r
  simp [f_list_L, m_list_L, e, hs]

theorem trains_ok (r : List Int) (h : Rising r) (hl : r.length ≤ 60) : f_trains [.lst (r.map D.int)] = .ok (.lst ((lists r).map twoD)) := by
  simp [f_trains, m_trains, look_row_ok r h hl, list_of_ok r (by omega)]

theorem weight_len {ps : List (Int × Int)} (h : Posi ps) : ps.length ≤ weight ps := by
  induction ps with
  | nil => simp
  | cons p r ih =>
    have a := ih fun q hq => h q (List.mem_cons_of_mem _ hq)
    have b := h p List.mem_cons_self
    simp [weight] at *
    omega
theorem walks_step (l : List Int) (h : Drawn l) (k : Nat) (hk : 2 + 2 * k < l.length) (c50 : Int) (p50 : 1 ≤ c50) (k50 : dPow (.int 10) (.int 50) = .ok (.int c50)) (M : Option D) (ws : List (Int × Int)) (hz : ws.length < 1000) (x : Option D) : ∃ (c n : Int), 1 ≤ c ∧ (-4 ≤ n ∧ n ≤ 4) ∧
    b_walks_L_1 [some (.lst (l.map D.int)), M, some (.lst (ws.map twoD)), some (.int (k : Int)), x] = .nx [some (.lst (l.map D.int)), M, some (.lst ((ws ++ [(c, n)]).map twoD)), some (.int (k : Int)), some (.int c)] := by
  obtain ⟨v0, a0, b0, e0⟩ := drawn_get h (i := 0) (by omega) (j := 0) rfl
  obtain ⟨v1, a1, b1, e1⟩ := drawn_get h (i := 1 + 2 * k) (by omega) (j := 1 + 2 * (k : Int)) (by omega)
  obtain ⟨v2, a2, b2, e2⟩ := drawn_get h (i := 2 + 2 * k) (by omega) (j := 2 + 2 * (k : Int)) (by omega)
  obtain ⟨m, hm, em⟩ := pick3 3 9 70 (v0.fdiv 8)
  have m0 : ¬ m = 0 := by omega
  have f := fmod_pos (a := v1) (b := m) (by omega)
  have f9 := fmod_pos (a := v2) (b := 9) (by decide)
  have m2 : mulOk 2 (k : Int) = true := mulOk_left (by decide) (by decide)
  have lz : ws.length < szL := lt_szL (by omega)
  by_cases c : v1.fmod 17 = 16
  · refine ⟨c50, v2.fmod 9 - 4, p50, by omega, ?_⟩
    rw [← app_pair]
    simp [b_walks_L_1, e0, e1, e2, em, m0, m2, c, k50, lz, -dIdx]
  · refine ⟨1 + v1.fmod m, v2.fmod 9 - 4, by omega, by omega, ?_⟩
    rw [← app_pair]
    simp [b_walks_L_1, e0, e1, e2, em, m0, m2, c, lz, -dIdx]
theorem walks_ok (l : List Int) (h : Drawn l) (many : Nat) (hm : many ≤ 100) (hl : 2 + 2 * many ≤ l.length) : ∃ ws : List (Int × Int), f_walks_L [.lst (l.map D.int), .int many] = .ok (.lst (ws.map twoD)) ∧ ws.length ≤ many ∧ Walks ws ∧ ∀ w ∈ ws, -4 ≤ w.2 ∧ w.2 ≤ 4 := by
  have k50 := dPow_ok (a := 10) (k := 50) (by decide) (by decide)
  have p50 : (1 : Int) ≤ 10 ^ 50 := by decide
  generalize (10 : Int) ^ 50 = c50 at k50 p50
  have k50' : dPow (.int 10) (.int 50) = .ok (.int c50) := k50
  obtain ⟨v0, a0, b0, e0⟩ := drawn_get h (i := 0) (by omega) (j := 0) rfl
  have f := fmod_pos (a := v0) (b := (many : Int) + 1) (by omega)
  have z0 : ¬ (many : Int) + 1 = 0 := by omega
  have rg := dRange1_nat (n := (v0.fmod ((many : Int) + 1)).toNat) (by omega)
  rw [Int.toNat_of_nonneg f.1] at rg
  obtain ⟨r', ew, ws, x, y, hr, hw, hn, hb⟩ := forL_foldI (fun (i : Nat) => D.int i) (fun (u : Unit) _ => u) (fun n _ t => ∃ (ws : List (Int × Int)) (x y : Option D), t = [some (.lst (l.map D.int)), some (.int many), some (.lst (ws.map twoD)), x, y] ∧ Walks ws ∧ ws.length = n ∧ ∀ w ∈ ws, -4 ≤ w.2 ∧ w.2 ≤ 4) (.one 3) b_walks_L_1 (List.range (v0.fmod ((many : Int) + 1)).toNat) 0 ()
    [some (.lst (l.map D.int)), some (.int many), some (.lst []), none, none] ⟨[], none, none, rfl, fun w hw => (nomatch hw), rfl, fun w hw => (nomatch hw)⟩ (fun i k hi hk u t ⟨ws, x, y, e, hw, hn, hb⟩ => by
      subst e
      have hk' := List.mem_range.mp hk
      rw [List.length_range] at hi
      obtain ⟨c, n, c1, nb, st⟩ := walks_step l h k (by omega) c50 p50 k50' (some (.int many)) ws (by omega) y
      refine ⟨[.int k], _, rfl, st, ws ++ [(c, n)], _, _, rfl, fun w hw' => ?_, by simp; omega, fun w hw' => ?_⟩
      · rcases List.mem_append.mp hw' with z | z
        · exact hw w z
        · have : w = (c, n) := by simpa using z
          subst this
          exact c1
      · rcases List.mem_append.mp hw' with z | z
        · exact hb w z
        · have : w = (c, n) := by simpa using z
          subst this
          exact nb)
  subst hr
  refine ⟨ws, ?_, by rw [hn, List.length_range]; omega, hw, hb⟩
  generalize (List.range (v0.fmod ((many : Int) + 1)).toNat).map (fun (i : Nat) => D.int i) = rr at *
  generalize l.map D.int = ll at *
  simp [f_walks_L, m_walks_L, e0, z0, rg, ew, -dIdx]

/-! ### law k31 -/
theorem pl_bar (n : Nat) (w : Str) (s : Int) (h : (PyData.str w).canLay0 = true) (h2 : w.length ≤ 1000) : pl (n + 2) (barT w s) = true := by
  show (([D.str w, D.int s] : List D).all (pl (n + 1)) && decide (2 ≤ szL)) = true
  rw [decide_eq_true (by rw [szL_val]; omega)]
  have := pl_str n w h h2
  simp [this]
  rfl
/-- all that bars -/
def barW (A B : List (Int × Int)) : Str × List Int := if (szK A B).filter (bad1 A B) = [] then ("apart", (szK A B).filter (bad2 A B)) else ("sizes", (szK A B).filter (bad1 A B))
theorem barW_str (A B : List (Int × Int)) : (PyData.str (barW A B).1).canLay0 = true ∧ (barW A B).1.length ≤ 1000 := by
  unfold barW
  split
  · show (PyData.str ("apart" : Str)).canLay0 = true ∧ ("apart" : Str).length ≤ 1000
    exact ⟨by decide +kernel, by decide +kernel⟩
  · show (PyData.str ("sizes" : Str)).canLay0 = true ∧ ("sizes" : Str).length ≤ 1000
    exact ⟨by decide +kernel, by decide +kernel⟩
theorem barO_W (A B : List (Int × Int)) : barO A B = ((barW A B).2.head?).map (barT (barW A B).1) := by
  unfold barO barW
  rw [← List.head?_filter]
  cases q : (szK A B).filter (bad1 A B) with
  | nil =>
    rw [if_pos rfl]
    dsimp only [List.head?_nil]
    rw [← List.head?_filter]
    cases (szK A B).filter (bad2 A B) <;> rfl
  | cons s r =>
    rw [if_neg (by simp)]
    rfl
theorem szK_len (A B : List (Int × Int)) : (szK A B).length ≤ A.length + B.length := by
  have := sortSet_len ((A ++ B).map (·.1))
  rw [List.length_map, List.length_append] at this
  exact this
theorem bars_fold (A B : List (Int × Int)) (w : Str) (bad : Int → Bool) (mb : Sl → O) (X : Sl → Prop) (st : ∀ (acc : List D) (s : Int) (r : Sl), acc.length ≤ 100 → X r → r[2]? = some (some (.lst acc)) → ∃ r', mb (r.set 4 (some (.int s))) = .nx r' ∧ X r' ∧ r'[2]? = some (some (.lst (acc ++ if bad s then [barT w s] else [])))) :
    ∀ (ss : List Int) (acc : List D) (r : Sl), acc.length + ss.length ≤ 100 → X r → r[2]? = some (some (.lst acc)) → ∃ r', forL (.one 4) mb (ss.map D.int) r = .nx r' ∧ X r' ∧ r'[2]? = some (some (.lst (acc ++ (ss.filter bad).map (barT w))))
  | [], acc, r, _, hx, h2 => ⟨r, rfl, hx, by rw [List.filter_nil, List.map_nil, List.append_nil]; exact h2⟩
  | s :: ss, acc, r, hl, hx, h2 => by
    rw [List.length_cons] at hl
    obtain ⟨r1, e1, hx1, h21⟩ := st acc s r (by omega) hx h2
    obtain ⟨r', e, hx', h2'⟩ := bars_fold A B w bad mb X st ss (acc ++ if bad s then [barT w s] else []) r1 (by rw [List.length_append]; split <;> simp <;> omega) hx1 h21
    refine ⟨r', ?_, hx', ?_⟩
    · rw [List.map_cons, ← e]
      exact forL_step (xs := [.int s]) rfl e1
    · rw [h2', List.filter_cons, List.append_assoc]
      cases bad s <;> rfl
theorem offL_ok (A : List (Int × Int)) (s : Int) : f_offsets_L [.lst (A.map twoD), .int s] = .ok (.lst ((offK A s).map D.int)) := by
  have c : gComp (gIter (gVar 0)) (.tup [2, 3]) [2, 3] (gTest (gBin dEq (gVar 2) (gVar 1))) (gVar 3) [some (.lst (A.map twoD)), some (.int s), none, none] = .ok (.lst ((A.filter fun p => decide (p.1 = s)).map fun p => D.int p.2)) :=
    gComp_filter (l := A) (F := twoD) (p := fun p => decide (p.1 = s)) (G := fun p => D.int p.2) rfl fun p _ => by
      by_cases e : p.1 = s <;> simp [gTurn, twoD, e]
  have e : ((A.filter fun p => decide (p.1 = s)).map fun p => D.int p.2) = (offK A s).map D.int := by unfold offK; rw [List.map_map]; rfl
  rw [e] at c
  generalize (offK A s).map D.int = o at *
  generalize A.map twoD = a at *
  simp [f_offsets_L, m_offsets_L, c]
theorem ne_nil_bars (w : Str) (l : List Int) (h : (PyData.str w).canLay0 = true) (h2 : w.length ≤ 1000) (hl : l.length ≤ 1000) : dNe (.lst (l.map (barT w))) (.lst []) = .ok (.bl (decide (l ≠ []))) := by
  have s1 : shp (.lst (l.map (barT w))) = true := pl_shp (n := 4) (by decide) (by
    show ((l.map (barT w)).all (pl 3) && decide ((l.map (barT w)).length ≤ szL)) = true
    rw [decide_eq_true (le_szL (by rw [List.length_map]; omega)), Bool.and_true, List.all_eq_true]
    intro d hd
    obtain ⟨s, _, rfl⟩ := List.mem_map.mp hd
    exact pl_bar 1 w s h h2)
  have s2 : shp (.lst (([] : List Int).map (barT w))) = true := pl_shp (n := 4) (by decide) (by
    show (([] : List D).all (pl 3) && decide (([] : List D).length ≤ szL)) = true
    rw [decide_eq_true (le_szL (by decide))]
    rfl)
  have s2' : shp (.lst []) = true := s2
  unfold dNe
  rw [s1, s2']
  cases l with
  | nil => rfl
  | cons p r => rfl
theorem barsL_ok (A B : List (Int × Int)) (hl : A.length + B.length ≤ 63) : f_bars_L [.lst (A.map twoD), .lst (B.map twoD)] = .ok (.lst ((barW A B).2.map (barT (barW A B).1))) := by
  have lz : (A.map twoD).length + (B.map twoD).length ≤ szL := le_szL (by rw [List.length_map, List.length_map]; omega)
  have sl := szK_len A B
  have sz := sizes_comp2 A B hl (x := none) (y := none) (k1 := 4) (k2 := 5) (r := [some (.lst (A.map twoD)), some (.lst (B.map twoD)), some (.lst []), none, none, none, none, none, none]) (gIter (gBin dAdd (gVar 0) (gVar 1))) (gVar 4) (by
    rw [List.map_append]
    generalize A.map twoD = a at *
    generalize B.map twoD = b at *
    simp [dIter, lz]) fun p _ => by simp [gTurn, twoD]
  have z2 : (2 : Nat) ≤ szL := le_szL (by decide)
  have z0 : (0 : Nat) ≤ szL := le_szL (by decide)
  obtain ⟨r1, l1, ⟨a2, x4, x5, x6, x7, x8, e1⟩, h1⟩ := bars_fold A B "sizes" (bad1 A B) b_bars_L_1 (fun r => ∃ a2 x4 x5 x6 x7 x8, r = [some (.lst (A.map twoD)), some (.lst (B.map twoD)), a2, some (.lst ((szK A B).map D.int)), x4, x5, x6, x7, x8]) (fun acc s r ha ⟨a2, x4, x5, x6, x7, x8, e⟩ h2 => by
    subst e
    have e2 : a2 = some (.lst acc) := by simpa using h2
    subst e2
    have oa := offL_ok A s
    have ob := offL_ok B s
    have la : fLen [.lst ((offK A s).map D.int)] = .ok (.int ((offK A s).length : Nat)) := by simp [fLen]
    have lb : fLen [.lst ((offK B s).map D.int)] = .ok (.int ((offK B s).length : Nat)) := by simp [fLen]
    have lac : acc.length < szL := lt_szL (by omega)
    unfold bad1 barT
    generalize (szK A B).map D.int = ss at *
    generalize (offK A s).map D.int = qa at *
    generalize (offK B s).map D.int = qb at *
    generalize A.map twoD = a at *
    generalize B.map twoD = b at *
    by_cases e : (offK A s).length = (offK B s).length
    · exact ⟨[some (.lst a), some (.lst b), some (.lst acc), some (.lst ss), some (.int s), x5, x6, x7, x8], by simp [b_bars_L_1, oa, ob, la, lb, e, -fLen], ⟨_, _, _, _, _, _, rfl⟩, by simp [e]⟩
    · have e' : ¬ (((offK A s).length : Nat) : Int) = ((offK B s).length : Nat) := fun z => e (Int.ofNat.inj z)
      exact ⟨[some (.lst a), some (.lst b), some (.lst (acc ++ [.tup [.str "sizes", .int s]])), some (.lst ss), some (.int s), x5, x6, x7, x8], by simp [b_bars_L_1, oa, ob, la, lb, e', z2, lac, -fLen], ⟨_, _, _, _, _, _, rfl⟩, by simp [e]⟩) (szK A B) [] [some (.lst (A.map twoD)), some (.lst (B.map twoD)), some (.lst []), some (.lst ((szK A B).map D.int)), none, none, none, none, none] (by simp; omega) ⟨_, _, _, _, _, _, rfl⟩ rfl
  subst e1
  rw [List.nil_append] at h1
  have e2 : a2 = some (.lst (((szK A B).filter (bad1 A B)).map (barT "sizes"))) := by simpa using h1
  subst e2
  have nn := ne_nil_bars "sizes" ((szK A B).filter (bad1 A B)) (by decide +kernel) (by decide +kernel) (by have := List.length_filter_le (bad1 A B) (szK A B); omega)
  by_cases c : (szK A B).filter (bad1 A B) = []
  · have eW : barW A B = (("apart" : Str), (szK A B).filter (bad2 A B)) := by unfold barW; rw [if_pos c]
    rw [eW]
    rw [c] at l1 nn
    rw [List.map_nil] at l1 nn
    have nn' : dNe (.lst []) (.lst []) = .ok (.bl false) := nn
    obtain ⟨r2, l2, ⟨a3, y4, y5, y6, y7, y8, e3⟩, h3⟩ := bars_fold A B "apart" (bad2 A B) b_bars_L_2 (fun r => ∃ a2 x4 x5 x6 x7 x8, r = [some (.lst (A.map twoD)), some (.lst (B.map twoD)), a2, some (.lst ((szK A B).map D.int)), x4, x5, x6, x7, x8]) (fun acc s r ha ⟨a2, x4, x5, x6, x7, x8, e⟩ h2 => by
      subst e
      have e2 : a2 = some (.lst acc) := by simpa using h2
      subst e2
      have oa := offL_ok A s
      have ob := offL_ok B s
      have zd : dListZip (.lst ((offK A s).map D.int)) (.lst ((offK B s).map D.int)) = .ok (.lst (zipD ((offK A s).map D.int) ((offK B s).map D.int))) := rfl
      have ls := zip_difs A B s (by omega) (k1 := 7) (k2 := 8) (r := [some (.lst (A.map twoD)), some (.lst (B.map twoD)), some (.lst acc), some (.lst ((szK A B).map D.int)), some (.int s), x5, some (.lst (zipD ((offK A s).map D.int) ((offK B s).map D.int))), x7, x8]) (gIter (gVar 6)) (gBin dSub (gVar 8) (gVar 7)) rfl fun p => by simp [gTurn, twoD]
      have lac : acc.length < szL := lt_szL (by omega)
      unfold bad2 barT
      generalize zipD ((offK A s).map D.int) ((offK B s).map D.int) = zz at *
      generalize (szK A B).map D.int = ss at *
      generalize (offK A s).map D.int = qa at *
      generalize (offK B s).map D.int = qb at *
      generalize A.map twoD = a at *
      generalize B.map twoD = b at *
      generalize (sortSet (difs A B s)).length = n at *
      by_cases e : 1 < n
      · have e' : (1 : Int) < (n : Int) := by omega
        exact ⟨[some (.lst a), some (.lst b), some (.lst (acc ++ [.tup [.str "apart", .int s]])), some (.lst ss), some (.int s), x5, some (.lst zz), x7, x8], by simp [b_bars_L_2, oa, ob, zd, ls, e', z2, lac, -gUn, -gComp], ⟨_, _, _, _, _, _, rfl⟩, by simp [e]⟩
      · have e' : ¬ (1 : Int) < (n : Int) := by omega
        exact ⟨[some (.lst a), some (.lst b), some (.lst acc), some (.lst ss), some (.int s), x5, some (.lst zz), x7, x8], by simp [b_bars_L_2, oa, ob, zd, ls, e', -gUn, -gComp], ⟨_, _, _, _, _, _, rfl⟩, by simp [e]⟩) (szK A B) [] [some (.lst (A.map twoD)), some (.lst (B.map twoD)), some (.lst []), some (.lst ((szK A B).map D.int)), x4, x5, x6, x7, x8] (by simp; omega) ⟨_, _, _, _, _, _, rfl⟩ rfl
    subst e3
    rw [List.nil_append] at h3
    have e4 : a3 = some (.lst (((szK A B).filter (bad2 A B)).map (barT "apart"))) := by simpa using h3
    subst e4
    dsimp only
    generalize ((szK A B).filter (bad2 A B)).map (barT "apart") = q2 at *
    generalize (szK A B).map D.int = ss at *
    generalize A.map twoD = a at *
    generalize B.map twoD = b at *
    simp [f_bars_L, m_bars_L, sz, l1, l2, nn', dIter, z0, -gUn, -gComp]
  · have eW : barW A B = (("sizes" : Str), (szK A B).filter (bad1 A B)) := by unfold barW; rw [if_neg c]
    rw [eW]
    rw [decide_eq_true c] at nn
    dsimp only
    generalize ((szK A B).filter (bad1 A B)).map (barT "sizes") = q1 at *
    generalize (szK A B).map D.int = ss at *
    generalize A.map twoD = a at *
    generalize B.map twoD = b at *
    simp [f_bars_L, m_bars_L, sz, l1, nn, dIter, z0, -gUn, -gComp]
theorem fAll_map {α : Type} (l : List α) : fAll [.lst (l.map fun _ => D.bl true)] = .ok (.bl true) := by
  have z := fAll_true (List.range l.length)
  have e : ((List.range l.length).map fun _ => D.bl true) = l.map fun _ => D.bl true := by simp [List.map_const']
  rw [e] at z
  exact z
theorem kinM_le (A B : List (Int × Int)) (hp : Posi A) : (kinM A B : Int) ≤ topR (A.map (·.1)) := by
  have so := stepsL_ok A B hp
  have pos := so.pos
  unfold kinM foL
  rcases so.last with ⟨_, e⟩ | ⟨s, hs, e⟩
  · rw [e]
    show (0 : Int) ≤ _
    unfold topR
    split
    · exact Int.le_refl 0
    · rename_i n
      have m := lmax_mem n
      obtain ⟨p, hp1, e2⟩ := List.mem_map.mp m
      have := hp p hp1
      omega
  · obtain ⟨p, hp1, e2⟩ := szA_mem.mp hs
    have := (low_le (List.mem_map.mpr ⟨p, hp1, rfl⟩ : p.1 ∈ A.map (·.1))).2
    omega
theorem right_walks (a b : List Int) (ha : Rising a) (hb : Rising b) (la : a.length ≤ 60) (lb : b.length ≤ 60) (h : barO (lists a) (lists b) = none) : f_walks_right_L [.lst (a.map D.int), .lst (b.map D.int), .lst ((kinW (lists a) (lists b)).map twoD)] = .ok (.bl true) := by
  have po := lists_posi a
  have tk := kinM_le (lists a) (lists b) po
  have mem := walksW_mem (stepsF (lists a) (lists b)) (kinM (lists a) (lists b))
  have nd := walksW_nodup (stepsF (lists a) (lists b)) (kinM (lists a) (lists b))
  have wl := walksW_len (stepsF (lists a) (lists b)) (kinM (lists a) (lists b))
  have ff := kin_far hb h
  have tr := trains_ok a ha la
  have ll := lists_len a
  have tm : topR ((lists a).map (·.1)) ≤ 60 := by
    unfold topR
    split
    · decide
    · rename_i n
      obtain ⟨p, hp1, e2⟩ := List.mem_map.mp (lmax_mem n)
      have := size_leW po hp1
      rw [lists_weight] at this
      omega
  have fw := far_ok a (kinW (lists a) (lists b)) ha la fun w hw => (mem w hw).1
  rw [ff] at fw
  unfold kinW at *
  generalize walksW (stepsF (lists a) (lists b)) (kinM (lists a) (lists b)) = W at *
  generalize kinM (lists a) (lists b) = M at *
  have wl60 : W.length ≤ 60 := by omega
  have c1 : gComp (gIter (gVar 2)) (.one 3) [3] gYes (vAnd (gUn (dIs .tuple) (gVar 3)) (gBin dEq (gCall fLen (VL.gCons (gVar 3) VL.gNil)) (gC (.int 2)))) [some (.lst (a.map D.int)), some (.lst (b.map D.int)), some (.lst (W.map twoD)), none, none, none, none, none, none, none] = .ok (.lst (W.map fun _ => D.bl true)) := gComp_map (l := W) (F := twoD) (G := fun _ => D.bl true) rfl fun w _ => by simp [gTurn, twoD]
  have fa := fAll_map W
  have c2 : gComp (gIter (gCall f_trains (VL.gCons (gCall fList (VL.gCons (gVar 0) VL.gNil)) VL.gNil))) (.tup [5, 6]) [5, 6] gYes (gVar 5) [some (.lst (a.map D.int)), some (.lst (b.map D.int)), some (.lst (W.map twoD)), none, none, none, none, none, none, none] = .ok (.lst ((lists a).map fun p => D.int p.1)) := gComp_map (l := lists a) (F := twoD) (G := fun p => D.int p.1) (by
    generalize (lists a).map twoD = q at *
    generalize a.map D.int = x at *
    simp [tr, dIter]) fun p _ => by simp [gTurn, twoD]
  have e2 : ((lists a).map fun p => D.int p.1) = ((lists a).map (·.1)).map D.int := by rw [List.map_map]; rfl
  rw [e2] at c2
  have mx := fMaxD_ok ((lists a).map (·.1))
  generalize hT : topR ((lists a).map (·.1)) = T at *
  have c3 : ∀ x3 x5 x6, gComp (gIter (gVar 2)) (.tup [8, 9]) [8, 9] gYes (gVar 8) [some (.lst (a.map D.int)), some (.lst (b.map D.int)), some (.lst (W.map twoD)), x3, some (.int T), x5, x6, none, none, none] = .ok (.lst (W.map fun w => D.int w.1)) := fun x3 x5 x6 => gComp_map (l := W) (F := twoD) (G := fun w => D.int w.1) rfl fun w _ => by simp [gTurn, twoD]
  have e3 : (W.map fun w => D.int w.1) = (W.map (·.1)).map D.int := by rw [List.map_map]; rfl
  rw [e3] at c3
  have ls := lenSet_ok (W.map (·.1)) (by rw [List.length_map]; omega)
  have lse : (sortSet (W.map (·.1))).length = W.length := by
    have e : (sortSet (W.map (·.1))).length = (W.map (·.1)).length := List.Perm.length_eq ((List.perm_ext_iff_of_nodup ((sortSet_lt _).imp fun {a b} h => by omega) nd).mpr fun k => sortSet_mem _ k)
    rw [e, List.length_map]
  rw [lse] at ls
  have lw : fLen [.lst ((W.map (·.1)).map D.int)] = .ok (.int (W.length : Nat)) := by simp [fLen]
  obtain ⟨r', ⟨x8, x9, er⟩, lp⟩ := forL_test (F := twoD) (fun _ => true) (fun r => ∃ x8 x9, r = [some (.lst (a.map D.int)), some (.lst (b.map D.int)), some (.lst (W.map twoD)), none, some (.int T), none, none, some (.lst ((W.map (·.1)).map D.int)), x8, x9]) (.tup [8, 9]) b_walks_right_L_1 (.bl false) W [some (.lst (a.map D.int)), some (.lst (b.map D.int)), some (.lst (W.map twoD)), none, some (.int T), none, none, some (.lst ((W.map (·.1)).map D.int)), none, none] ⟨_, _, rfl⟩ fun w hw r ⟨x8, x9, e⟩ => by
    subst e
    obtain ⟨m1, m2, m3⟩ := mem w hw
    refine ⟨[.int w.1, .int w.2], _, rfl, ⟨some (.int w.1), some (.int w.2), rfl⟩, ?_⟩
    have sm := same_ints [w.1, w.2] (by simp)
    have sm' : f_same_L 8 [.lst [.int w.1, .int w.2], .lst [.int w.1, .int w.2]] = .ok (.bl true) := sm
    have z2 : (2 : Nat) ≤ szL := le_szL (by decide)
    have le : w.1 ≤ T := by omega
    have ne : ¬ w.2 = 0 := m3
    generalize (W.map (·.1)).map D.int = q at *
    generalize W.map twoD = ww at *
    generalize a.map D.int = x at *
    generalize b.map D.int = y at *
    simp [b_walks_right_L_1, setD, sm', z2, m1, le, ne]
  have al : W.all (fun _ => true) = true := by simp
  rw [al, if_pos rfl] at lp
  subst er
  have eb := eq_ints b b (by omega) (by omega)
  rw [decide_eq_true rfl] at eb
  have ew : dEq (.int (W.length : Nat)) (.int (W.length : Nat)) = .ok (.bl true) := by rw [dEq_int]; simp
  generalize ((W.length : Nat) : Int) = n at *
  generalize W.map (fun _ => D.bl true) = tt at *
  generalize (W.map (·.1)).map D.int = q at *
  generalize ((lists a).map (·.1)).map D.int = q2 at *
  generalize W.map twoD = ww at *
  generalize a.map D.int = x at *
  generalize b.map D.int = y at *
  simp [f_walks_right_L, m_walks_right_L, c1, fa, c2, mx, c3, lp, ls, lw, fw, eb, ew, dIter, -gComp, -fMaxD, -dLenSet, -fLen, -fAll]
theorem same_i (n : Nat) (i j : Int) : f_same_L (n + 1) [.int i, .int j] = .ok (.bl (decide (i = j))) := by
  simp [f_same_L, m_same_L, Bool.beq_eq_decide_eq]
theorem same_bar (w : Str) (i j : Int) (h : (PyData.str w).canLay0 = true) (h2 : w.length ≤ 1000) : f_same_L 8 [barT w i, barT w j] = .ok (.bl (decide (i = j))) := by
  have s0 := same_refl 7 (.str w) (by decide) (pl_str 6 w h h2)
  have s1 := same_i 6 i j
  have rg : dRange1 (.int 2) = .ok ((List.range 2).map fun (i : Nat) => D.int i) := dRange1_nat (n := 2) (by decide)
  have c : gComp (gRange1 (gCall fLen (VL.gCons (gVar 1) VL.gNil))) (.one 2) [2] gYes (gCall (f_same_L 7) (VL.gCons (gBin dIdx (gVar 0) (gVar 2)) (VL.gCons (gBin dIdx (gVar 1) (gVar 2)) VL.gNil))) [some (barT w i), some (barT w j), none] = .ok (.lst ((List.range 2).map fun k => D.bl (if k = 0 then true else decide (i = j)))) := by
    refine gComp_map (l := List.range 2) (F := fun (i : Nat) => D.int i) ?_ fun k hk => ?_
    · unfold barT
      simp [rg]
    · have hk' := List.mem_range.mp hk
      rcases (by omega : k = 0 ∨ k = 1) with e | e <;> subst e
      · have a := tup0 (.str w) (.int i)
        have b := tup0 (.str w) (.int j)
        have a' : dIdx (barT w i) (.int ((0 : Nat) : Int)) = .ok (.str w) := a
        have b' : dIdx (barT w j) (.int ((0 : Nat) : Int)) = .ok (.str w) := b
        generalize barT w i = x at *
        generalize barT w j = y at *
        generalize (((0 : Nat)) : Int) = z at *
        simp [gTurn, a', b', s0, -dIdx]
      · have a := tup1 (.str w) (.int i)
        have b := tup1 (.str w) (.int j)
        have a' : dIdx (barT w i) (.int ((1 : Nat) : Int)) = .ok (.int i) := a
        have b' : dIdx (barT w j) (.int ((1 : Nat) : Int)) = .ok (.int j) := b
        generalize barT w i = x at *
        generalize barT w j = y at *
        generalize (((1 : Nat)) : Int) = z at *
        simp [gTurn, a', b', s1, -dIdx]
  have fa : fAll [.lst ((List.range 2).map fun k => D.bl (if k = 0 then true else decide (i = j)))] = .ok (.bl (decide (i = j))) := by
    show fAll [.lst [.bl true, .bl (decide (i = j))]] = _
    simp [fAll, blsOf]
  unfold barT at *
  generalize (List.range 2).map (fun k => D.bl (if k = 0 then true else decide (i = j))) = q at *
  show runF (m_same_L (f_same_L 7)) 1 _ = _
  generalize f_same_L 7 = fs at *
  simp [m_same_L, c, fa, -gComp]
theorem right_ok (a b : List Int) (ha : Rising a) (hb : Rising b) (la : a.length ≤ 60) (lb : b.length ≤ 60) (hl : (lists a).length + (lists b).length ≤ 63) : f_right_L [.lst (a.map D.int), .lst (b.map D.int)] = .ok (.bl true) := by
  have kn := kin_ok a b ha hb la lb hl
  have l1 := list_L_ok a (by omega)
  have l2 := list_L_ok b (by omega)
  have bs := barsL_ok (lists a) (lists b) hl
  have z2 : (2 : Nat) ≤ szL := le_szL (by decide)
  have i0 : dIdx (.lst [.lst (a.map D.int), .lst (b.map D.int)]) (.int 0) = .ok (.lst (a.map D.int)) := dIdx_list (i := 0) rfl
  have i1 : dIdx (.lst [.lst (a.map D.int), .lst (b.map D.int)]) (.int 1) = .ok (.lst (b.map D.int)) := dIdx_list (i := 1) rfl
  have n1 : dNe (.lst [.lst (a.map D.int), .lst (b.map D.int)]) (.lst [.lst (a.map D.int), .lst (b.map D.int)]) = .ok (.bl false) := by
    refine dNe_self (n := 5) (by decide) ?_
    show ([D.lst (a.map D.int), .lst (b.map D.int)].all (pl 4) && decide ([D.lst (a.map D.int), .lst (b.map D.int)].length ≤ szL)) = true
    rw [Bool.and_eq_true]
    refine ⟨?_, by simpa using le_szL (n := 2) (by decide)⟩
    simp only [List.all_cons, List.all_nil, Bool.and_true, Bool.and_eq_true]
    exact ⟨pl_ints (n := 2) (le_szL (by omega)), pl_ints (n := 2) (le_szL (by omega))⟩
  obtain ⟨bw1, bw2⟩ := barW_str (lists a) (lists b)
  have bo := barO_W (lists a) (lists b)
  have sl := szK_len (lists a) (lists b)
  have wl : (barW (lists a) (lists b)).2.length ≤ 63 := by
    have f1 := List.length_filter_le (bad1 (lists a) (lists b)) (szK (lists a) (lists b))
    have f2 := List.length_filter_le (bad2 (lists a) (lists b)) (szK (lists a) (lists b))
    unfold barW
    split <;> simp only <;> omega
  have nn := ne_nil_bars (barW (lists a) (lists b)).1 (barW (lists a) (lists b)).2 bw1 bw2 (by omega)
  cases q : (barW (lists a) (lists b)).2 with
  | cons s rest =>
    rw [q] at bo nn bs
    have bo' : barO (lists a) (lists b) = some (barT (barW (lists a) (lists b)).1 s) := bo
    have ek : kinD (lists a) (lists b) = barT (barW (lists a) (lists b)).1 s := by unfold kinD; rw [bo']; rfl
    rw [ek] at kn
    have sm := fun j => same_bar (barW (lists a) (lists b)).1 s j bw1 bw2
    generalize (barW (lists a) (lists b)).1 = w at *
    have nn' : dNe (.lst ((s :: rest).map (barT w))) (.lst []) = .ok (.bl true) := by rw [nn]; simp
    have c : ∀ x6, gComp (gIter (gVar 4)) (.one 5) [5] gYes (gScal (gCall (f_same_L 8) (VL.gCons (gVar 3) (VL.gCons (gVar 5) VL.gNil)))) [some (.lst (a.map D.int)), some (.lst (b.map D.int)), some (.lst [.lst (a.map D.int), .lst (b.map D.int)]), some (barT w s), some (.lst ((s :: rest).map (barT w))), none, x6] = .ok (.lst ((s :: rest).map fun j => D.bl (decide (s = j)))) := fun x6 => gComp_map (l := s :: rest) (F := barT w) (G := fun j => D.bl (decide (s = j))) rfl fun j _ => by
      have := sm j
      generalize barT w j = y at *
      generalize barT w s = x at *
      generalize a.map D.int = x at *
      generalize b.map D.int = y at *
      simp [gTurn, this, D.scal]
    have fa : fAny [.lst ((s :: rest).map fun j => D.bl (decide (s = j)))] = .ok (.bl true) := by
      have key : ∀ l : List Int, blsOf (l.map fun j => D.bl (decide (s = j))) = some (l.map fun j => decide (s = j)) := fun l => by
        induction l with
        | nil => rfl
        | cons x l ih =>
          show (blsOf (l.map fun j => D.bl (decide (s = j)))).map _ = _
          rw [ih]
          rfl
      unfold fAny
      dsimp only
      rw [key]
      simp
    have isT : dIs .tuple (barT w s) = .ok (.bl true) := rfl
    have lT : fLen [barT w s] = .ok (.int 2) := rfl
    generalize ((s :: rest).map fun j => D.bl (decide (s = j))) = q2 at *
    generalize (s :: rest).map (barT w) = bb at *
    generalize barT w s = d at *
    generalize (lists a).map twoD = A at *
    generalize (lists b).map twoD = B at *
    generalize a.map D.int = x at *
    generalize b.map D.int = y at *
    simp [f_right_L, m_right_L, kn, l1, l2, bs, z2, i0, i1, n1, nn', c, fa, isT, lT, D.scal, -dIdx, -gComp, -fLen, -dIs]
  | nil =>
    rw [q] at bo nn bs
    have bo' : barO (lists a) (lists b) = none := bo
    have ek : kinD (lists a) (lists b) = .tup [.str "walks", .lst ((kinW (lists a) (lists b)).map twoD)] := by unfold kinD; rw [bo']; rfl
    rw [ek] at kn
    have rw_ := right_walks a b ha hb la lb bo'
    have wlen : (kinW (lists a) (lists b)).length ≤ 1000 := by
      have w1 := walksW_len (stepsF (lists a) (lists b)) (kinM (lists a) (lists b))
      have tk := kinM_le (lists a) (lists b) (lists_posi a)
      have po := lists_posi a
      have tm : topR ((lists a).map (·.1)) ≤ 60 := by
        unfold topR
        split
        · decide
        · rename_i n
          obtain ⟨p, hp1, e2⟩ := List.mem_map.mp (lmax_mem n)
          have := size_leW po hp1
          rw [lists_weight] at this
          omega
      unfold kinW
      omega
    have nn' : dNe (.lst []) (.lst []) = .ok (.bl false) := nn
    have bs' : f_bars_L [.lst ((lists a).map twoD), .lst ((lists b).map twoD)] = .ok (.lst []) := bs
    have sw : f_same_L 8 [.str "walks", .str "walks"] = .ok (.bl true) := same_refl 8 _ (by decide) (pl_str 7 "walks" (by decide +kernel) (by decide +kernel))
    have lz : ((kinW (lists a) (lists b)).map twoD).length < szL := lt_szL (by rw [List.length_map]; omega)
    have eqw : dEq (.str "walks") (.str "walks") = .ok (.bl true) := dEq_self (n := 8) (by decide) (pl_str 7 "walks" (by decide +kernel) (by decide +kernel))
    have t0 : ∀ x : D, dIdx (.tup [.str "walks", x]) (.int 0) = .ok (.str "walks") := fun x => tup0 _ _
    have t1 : ∀ x : D, dIdx (.tup [.str "walks", x]) (.int 1) = .ok x := fun x => tup1 _ _
    have z1 : (1 : Nat) ≤ szL := le_szL (by decide)
    generalize (kinW (lists a) (lists b)).map twoD = W at *
    generalize (lists a).map twoD = A at *
    generalize (lists b).map twoD = B at *
    generalize a.map D.int = x at *
    generalize b.map D.int = y at *
    simp [f_right_L, m_right_L, kn, l1, l2, bs', z1, z2, i0, i1, n1, nn', sw, rw_, lz, eqw, t0, t1, D.scal, -dIdx]
theorem cutL_toG {α : Type} {xs : List α} {k : Nat} {i : Int} (hi : i = (k : Int)) : cutL xs none (some i) = xs.take k := cutL_to (k := k) hi
theorem law_ok (ns : List Int) (hn : ns.length ≤ 63) : f_law [.scr ns] = .ok (.bl true) := by
  obtain ⟨l, e1, hl, d1⟩ := numbers_ok ns hn 120 (by decide)
  have e1' : f_numbers_L [.scr ns, .int 120] = .ok (.lst (l.map D.int)) := e1
  obtain ⟨v0, p0, q0, g0⟩ := drawn_get d1 (i := 0) (by omega) (j := 0) rfl
  obtain ⟨v1, p1, q1, g1⟩ := drawn_get d1 (i := 1) (by omega) (j := 1) rfl
  obtain ⟨v2, p2, q2, g2⟩ := drawn_get d1 (i := 2) (by omega) (j := 2) rfl
  obtain ⟨v3, p3, q3, g3⟩ := drawn_get d1 (i := 3) (by omega) (j := 3) rfl
  obtain ⟨v4, p4, q4, g4⟩ := drawn_get d1 (i := 4) (by omega) (j := 4) rfl
  have f9 := fmod_pos (a := v1) (b := 9) (by decide)
  have f92 := fmod_pos (a := v2) (b := 9) (by decide)
  have f30 := fmod_pos (a := v3) (b := 30) (by decide)
  have f5 := fmod_pos (a := v1) (b := 5) (by decide)
  obtain ⟨m, hm, em⟩ := pick3 5 12 20 v0
  have d5 : Drawn (l.drop 5) := fun d hd => d1 d (List.mem_of_mem_drop hd)
  have d40 : Drawn (l.drop 40) := fun d hd => d1 d (List.mem_of_mem_drop hd)
  have d60 : Drawn (l.drop 60) := fun d hd => d1 d (List.mem_of_mem_drop hd)
  obtain ⟨r, er, hr1, hr2⟩ := long_row_ok (l.drop 5) d5 m.toNat (by omega) (by rw [List.length_drop]; omega)
  have er' : f_long_row_L [.lst ((l.drop 5).map D.int), .int m] = .ok (.lst (r.map D.int)) := by
    rw [Int.toNat_of_nonneg (by omega)] at er
    exact er
  obtain ⟨r2, er2, hs1, hs2⟩ := long_row_ok (l.drop 60) d60 12 (by omega) (by rw [List.length_drop]; omega)
  have er2' : f_long_row_L [.lst ((l.drop 60).map D.int), .int 12] = .ok (.lst (r2.map D.int)) := er2
  obtain ⟨ws, ew, hw1, hw2, _⟩ := walks_ok (l.drop 40) d40 6 (by omega) (by rw [List.length_drop]; omega)
  have ew' : f_walks_L [.lst ((l.drop 40).map D.int), .int 6] = .ok (.lst (ws.map twoD)) := ew
  have c5 : cutL (l.map D.int) (some 5) none = (l.drop 5).map D.int := by rw [cutL_from (k := 5) (by simp; omega), List.map_drop]
  have c40 : cutL (l.map D.int) (some 40) none = (l.drop 40).map D.int := by rw [cutL_from (k := 40) (by simp; omega), List.map_drop]
  have c60 : cutL (l.map D.int) (some 60) none = (l.drop 60).map D.int := by rw [cutL_from (k := 60) (by simp; omega), List.map_drop]
  obtain ⟨T, eT⟩ : ∃ T : Int, f_ten_L [.int (v3.fmod 30)] = .ok (.int T) := by
    have z := ten_ok (v3.fmod 30).toNat (by omega)
    rw [Int.toNat_of_nonneg f30.1] at z
    exact ⟨_, z⟩
  have mo : mulOk (v2.fmod 9 - 4) T = true := mulOk_left (by omega) (by omega)
  have lr : r.length ≤ 20 := by omega
  -- the walks and what they make
  have hW : Walks (ws ++ [(1 + v1.fmod 9, (v2.fmod 9 - 4) * T)]) := fun w hw => by
    rcases List.mem_append.mp hw with z | z
    · exact hw2 w z
    · rw [List.mem_singleton.mp z]
      show 1 ≤ 1 + v1.fmod 9
      omega
  have po := lists_posi r
  have we := lists_weight r
  have ll := lists_len r
  have ad := adds_ok (lists r) (ws ++ [(1 + v1.fmod 9, (v2.fmod 9 - 4) * T)]) hW po (by omega) (by omega)
  have lL := list_L_ok r (by omega)
  have eW : ws.map twoD ++ [D.tup [.int (1 + v1.fmod 9), .int ((v2.fmod 9 - 4) * T)]] = (ws ++ [(1 + v1.fmod 9, (v2.fmod 9 - 4) * T)]).map twoD := app_pair _ _ _
  have lwz : (ws.map twoD).length + 1 ≤ szL := le_szL (by rw [List.length_map]; omega)
  have sp := sortBy_perm (lt := ltII) (addL (lists r) (ws ++ [(1 + v1.fmod 9, (v2.fmod 9 - 4) * T)]))
  have pP : Posi (sortBy ltII (addL (lists r) (ws ++ [(1 + v1.fmod 9, (v2.fmod 9 - 4) * T)]))) := fun p hp => addL_posi po _ p (sp.mem_iff.mp hp)
  have wP : weight (sortBy ltII (addL (lists r) (ws ++ [(1 + v1.fmod 9, (v2.fmod 9 - 4) * T)]))) ≤ 20 := by rw [weight_perm sp, addL_weight]; omega
  generalize ws ++ [(1 + v1.fmod 9, (v2.fmod 9 - 4) * T)] = W at *
  generalize sortBy ltII (addL (lists r) W) = P at *
  clear sp
  have lP : P.length ≤ 20 := by have := weight_len pP; omega
  have s3 : (3 : Nat) ≤ szL := le_szL (by decide)
  have s2 : (2 : Nat) ≤ szL := le_szL (by decide)
  have s1 : (1 : Nat) ≤ szL := le_szL (by decide)
  have nP := ne_nil_two P (by omega)
  -- any list of trains is a row, and right both ways
  have row : ∀ Q : List (Int × Int), Posi Q → weight Q ≤ 40 → ∃ o : List Int, f_stones_L [.lst (Q.map twoD)] = .ok (.lst (o.map D.int)) ∧ Rising o ∧ o.length ≤ 40 := fun Q hQ wQ => by
    have := weight_len hQ
    exact ⟨stones Q, stones_L_ok Q hQ (by omega) (by omega), stones_rising Q hQ, by rw [stones_length Q hQ]; exact wQ⟩
  have rt : ∀ o : List Int, Rising o → o.length ≤ 40 → f_right_L [.lst (r.map D.int), .lst (o.map D.int)] = .ok (.bl true) ∧ f_right_L [.lst (o.map D.int), .lst (r.map D.int)] = .ok (.bl true) := fun o ho lo => by
    have l2 := lists_len o
    exact ⟨right_ok r o hr2 ho (by omega) (by omega) (by omega), right_ok o r ho hr2 (by omega) (by omega) (by omega)⟩
  have fin : ∀ (os : List (List Int)) (x6 x7 : Option D), (∀ o ∈ os, Rising o ∧ o.length ≤ 40) → gCall fAll (VL.gCons (gComp (gIter (gVar 5)) (.one 8) [8] gYes (vAnd (gCall f_right_L (VL.gCons (gVar 2) (VL.gCons (gVar 8) VL.gNil))) (gCall f_right_L (VL.gCons (gVar 8) (VL.gCons (gVar 2) VL.gNil))))) VL.gNil) [some (.scr ns), some (.lst (l.map D.int)), some (.lst (r.map D.int)), some (.lst (W.map twoD)), some (.lst (P.map twoD)), some (.lst (os.map fun o => D.lst (o.map D.int))), x6, x7, none] = .ok (.bl true) := fun os x6 x7 h => by
    have c : gComp (gIter (gVar 5)) (.one 8) [8] gYes (vAnd (gCall f_right_L (VL.gCons (gVar 2) (VL.gCons (gVar 8) VL.gNil))) (gCall f_right_L (VL.gCons (gVar 8) (VL.gCons (gVar 2) VL.gNil)))) [some (.scr ns), some (.lst (l.map D.int)), some (.lst (r.map D.int)), some (.lst (W.map twoD)), some (.lst (P.map twoD)), some (.lst (os.map fun o => D.lst (o.map D.int))), x6, x7, none] = .ok (.lst (os.map fun _ => D.bl true)) := gComp_map (l := os) (F := fun o : List Int => D.lst (o.map D.int)) (G := fun _ => D.bl true) rfl fun o ho => by
      obtain ⟨h1, h2⟩ := h o ho
      obtain ⟨a, b⟩ := rt o h1 h2
      generalize o.map D.int = oo at *
      generalize r.map D.int = rr at *
      simp [gTurn, a, b]
    have fa := fAll_map os
    generalize os.map (fun _ => D.bl true) = q at *
    simp [c, fa, -gComp]
  obtain ⟨o1, eo1, ho1, lo1⟩ := row P pP (by omega)
  have mu : mulOk (v2.fmod 9 - 4) T = true := mo
  by_cases n : P = []
  · have nP' : dNe (.lst (P.map twoD)) (.lst []) = .ok (.bl false) := by rw [nP]; simp [n]
    have fi := fin [r, o1, r2] none none (by
      intro o ho
      rcases List.mem_cons.mp ho with z | z
      · rw [z]; exact ⟨hr2, by omega⟩
      · rcases List.mem_cons.mp z with z | z
        · rw [z]; exact ⟨ho1, lo1⟩
        · rw [List.mem_singleton.mp z]; exact ⟨hs2, by omega⟩)
    have fi' : gCall fAll (VL.gCons (gComp (gIter (gVar 5)) (.one 8) [8] gYes (vAnd (gCall f_right_L (VL.gCons (gVar 2) (VL.gCons (gVar 8) VL.gNil))) (gCall f_right_L (VL.gCons (gVar 8) (VL.gCons (gVar 2) VL.gNil))))) VL.gNil) [some (.scr ns), some (.lst (l.map D.int)), some (.lst (r.map D.int)), some (.lst (W.map twoD)), some (.lst (P.map twoD)), some (.lst [.lst (r.map D.int), .lst (o1.map D.int), .lst (r2.map D.int)]), none, none, none] = .ok (.bl true) := fi
    clear fin rt row
    generalize (lists r).map twoD = A at *
    generalize P.map twoD = PD at *
    generalize W.map twoD = WD at *
    generalize ws.map twoD = wd at *
    generalize (l.drop 5).map D.int = l5 at *
    generalize (l.drop 40).map D.int = l40 at *
    generalize (l.drop 60).map D.int = l60 at *
    generalize l.map D.int = ll2 at *
    generalize r.map D.int = rr at *
    generalize o1.map D.int = oo1 at *
    generalize r2.map D.int = rr2 at *
    unfold f_law runF m_law
    show outF (mSeq _ _ [some (.scr ns), none, none, none, none, none, none, none, none]) = _
    rw [seq_nx (r' := [some (.scr ns), some (.lst ll2), none, none, none, none, none, none, none]) (by simp [e1'])]
    rw [seq_nx (r' := [some (.scr ns), some (.lst ll2), some (.lst rr), none, none, none, none, none, none]) (by simp [c5, g0, em, er', s3, -dIdx])]
    rw [seq_nx (r' := [some (.scr ns), some (.lst ll2), some (.lst rr), some (.lst WD), none, none, none, none, none]) (by simp [c40, ew', g1, g2, g3, eT, mo, s2, s1, eW, lwz, -dIdx])]
    rw [seq_nx (r' := [some (.scr ns), some (.lst ll2), some (.lst rr), some (.lst WD), some (.lst PD), none, none, none, none]) (by simp [lL, ad])]
    rw [seq_nx (r' := [some (.scr ns), some (.lst ll2), some (.lst rr), some (.lst WD), some (.lst PD), some (.lst [.lst rr, .lst oo1, .lst rr2]), none, none, none]) (by simp [eo1, c60, er2', s3])]
    rw [seq_nx (r' := [some (.scr ns), some (.lst ll2), some (.lst rr), some (.lst WD), some (.lst PD), some (.lst [.lst rr, .lst oo1, .lst rr2]), none, none, none]) (by simp [nP'])]
    unfold mSeq mRet
    rw [fi']
    rfl
  · have nP' : dNe (.lst (P.map twoD)) (.lst []) = .ok (.bl true) := by rw [nP]; simp [n]
    have pl : 0 < P.length := List.length_pos_iff.mpr n
    have fl := fmod_pos (a := v4) (b := (P.length : Int)) (by omega)
    obtain ⟨k, ek⟩ : ∃ k : Nat, v4.fmod (P.length : Int) = (k : Int) := ⟨(v4.fmod (P.length : Int)).toNat, by rw [Int.toNat_of_nonneg fl.1]⟩
    have hk : k < P.length := by omega
    have pk := two_at hk
    obtain ⟨P1, x, P2, eP, eP1, ex⟩ : ∃ P1 x P2, P = P1 ++ x :: P2 ∧ P1.length = k ∧ P[k] = x := ⟨P.take k, P[k], P.drop (k + 1), by rw [List.getElem_cons_drop, List.take_append_drop], by rw [List.length_take]; omega, rfl⟩
    rw [ex] at pk
    have ct : cutL (P.map twoD) none (some (k : Int)) = P1.map twoD := by
      rw [cutL_to (k := k) rfl, ← List.map_take, eP, List.take_append_of_le_length (by omega), List.take_of_length_le (by omega)]
    have cd : cutL (P.map twoD) (some ((k : Int) + 1)) none = P2.map twoD := by
      rw [cutL_fromG (k := k + 1) (i := (k : Int) + 1) (by omega), ← List.map_drop, eP, List.drop_append, List.drop_eq_nil_of_le (by omega), List.nil_append, show k + 1 - P1.length = 1 by omega]
      rfl
    have c1 : cutL (P.map twoD) none (some 1) = (P.take 1).map twoD := by rw [cutL_to (k := 1) (i := 1) rfl, List.map_take]
    have hx : 1 ≤ x.1 := pP x (by rw [eP]; simp)
    have hP1 : Posi P1 := fun p hp => pP p (by rw [eP]; exact List.mem_append_left _ hp)
    have hP2 : Posi P2 := fun p hp => pP p (by rw [eP]; exact List.mem_append_right _ (List.mem_cons_of_mem _ hp))
    have wx : weight P1 + (x.1.toNat + weight P2) ≤ 20 := by
      have := wP
      rw [eP, weight_app] at this
      exact this
    have cons_posi : ∀ {q : Int × Int} {Q : List (Int × Int)}, 1 ≤ q.1 → Posi Q → Posi (q :: Q) := fun {q Q} h1 h2 p hp => by
      rcases List.mem_cons.mp hp with z | z
      · rw [z]; exact h1
      · exact h2 p z
    have app_posi : ∀ {Q R : List (Int × Int)}, Posi Q → Posi R → Posi (Q ++ R) := fun {Q R} h1 h2 p hp => by
      rcases List.mem_append.mp hp with z | z
      · exact h1 p z
      · exact h2 p z
    have wcons : ∀ (q : Int × Int) (Q : List (Int × Int)), weight (q :: Q) = q.1.toNat + weight Q := fun q Q => rfl
    have hM : Posi (P1 ++ (x.1, x.2 + 1 + v1.fmod 5) :: P2) := app_posi hP1 (cons_posi hx hP2)
    have wM : weight (P1 ++ (x.1, x.2 + 1 + v1.fmod 5) :: P2) ≤ 20 := by rw [weight_app, wcons]; exact wx
    have hN : Posi (P1 ++ (x.1 + 1, x.2) :: P2) := app_posi hP1 (cons_posi (by show 1 ≤ x.1 + 1; omega) hP2)
    have wN : weight (P1 ++ (x.1 + 1, x.2) :: P2) ≤ 40 := by
      rw [weight_app, wcons]
      show weight P1 + ((x.1 + 1).toNat + weight P2) ≤ 40
      omega
    have hT1 : Posi (P.take 1) := fun p hp => pP p (List.mem_of_mem_take hp)
    have wT1 : weight (P.take 1) ≤ 20 := by
      have e : weight (P.take 1) + weight (P.drop 1) = weight P := by rw [← weight_app, List.take_append_drop]
      omega
    obtain ⟨o2, eo2, ho2, lo2⟩ := row _ hM (by omega)
    obtain ⟨o3, eo3, ho3, lo3⟩ := row _ hN wN
    obtain ⟨o4, eo4, ho4, lo4⟩ := row _ (app_posi hM hT1) (by rw [weight_app]; omega)
    have lM := weight_len hM
    have e7 : P1.map twoD ++ [D.tup [.int x.1, .int (x.2 + 1 + v1.fmod 5)]] ++ P2.map twoD = (P1 ++ (x.1, x.2 + 1 + v1.fmod 5) :: P2).map twoD := by simp [twoD]
    have e8 : P1.map twoD ++ [D.tup [.int (x.1 + 1), .int x.2]] ++ P2.map twoD = (P1 ++ (x.1 + 1, x.2) :: P2).map twoD := by simp [twoD]
    have e9 : (P1 ++ (x.1, x.2 + 1 + v1.fmod 5) :: P2).map twoD ++ (P.take 1).map twoD = (P1 ++ (x.1, x.2 + 1 + v1.fmod 5) :: P2 ++ P.take 1).map twoD := by rw [← List.map_append]
    have lp1 : P1.length + 1 + P2.length ≤ 20 := by
      have := lP
      rw [eP] at this
      simp at this
      omega
    have z7a : (P1.map twoD).length + 1 ≤ szL := le_szL (by rw [List.length_map]; omega)
    have z7b : (P1.map twoD).length + 1 + (P2.map twoD).length ≤ szL := le_szL (by rw [List.length_map, List.length_map]; omega)
    have z9 : ((P1 ++ (x.1, x.2 + 1 + v1.fmod 5) :: P2).map twoD).length + ((P.take 1).map twoD).length ≤ szL := le_szL (by
      rw [List.length_map, List.length_map]
      have : (P.take 1).length ≤ 1 := by rw [List.length_take]; omega
      omega)
    have t0 := tup0 (D.int x.1) (.int x.2)
    have t1 := tup1 (D.int x.1) (.int x.2)
    have lenP : fLen [.lst (P.map twoD)] = .ok (.int (P.length : Nat)) := by simp [fLen]
    have nz : ¬ (P.length : Int) = 0 := by omega
    have fi := fin [r, o1, r2, o2, o3, o4] (some (.int (k : Nat))) (some (.lst ((P1 ++ (x.1, x.2 + 1 + v1.fmod 5) :: P2).map twoD))) (by
      intro o ho
      simp only [List.mem_cons, List.not_mem_nil, or_false] at ho
      rcases ho with z | z | z | z | z | z
      · rw [z]; exact ⟨hr2, by omega⟩
      · rw [z]; exact ⟨ho1, lo1⟩
      · rw [z]; exact ⟨hs2, by omega⟩
      · rw [z]; exact ⟨ho2, lo2⟩
      · rw [z]; exact ⟨ho3, lo3⟩
      · rw [z]; exact ⟨ho4, lo4⟩)
    have fi' : gCall fAll (VL.gCons (gComp (gIter (gVar 5)) (.one 8) [8] gYes (vAnd (gCall f_right_L (VL.gCons (gVar 2) (VL.gCons (gVar 8) VL.gNil))) (gCall f_right_L (VL.gCons (gVar 8) (VL.gCons (gVar 2) VL.gNil))))) VL.gNil) [some (.scr ns), some (.lst (l.map D.int)), some (.lst (r.map D.int)), some (.lst (W.map twoD)), some (.lst (P.map twoD)), some (.lst [.lst (r.map D.int), .lst (o1.map D.int), .lst (r2.map D.int), .lst (o2.map D.int), .lst (o3.map D.int), .lst (o4.map D.int)]), some (.int (k : Nat)), some (.lst ((P1 ++ (x.1, x.2 + 1 + v1.fmod 5) :: P2).map twoD)), none] = .ok (.bl true) := fi
    have s4 : (4 : Nat) ≤ szL := le_szL (by decide)
    have s5 : (5 : Nat) ≤ szL := le_szL (by decide)
    have t3 : (3 : Nat) < szL := lt_szL (by decide)
    have t4 : (4 : Nat) < szL := lt_szL (by decide)
    have t5 : (5 : Nat) < szL := lt_szL (by decide)
    clear fin rt row cons_posi app_posi wcons
    generalize (P1 ++ (x.1, x.2 + 1 + v1.fmod 5) :: P2 ++ P.take 1).map twoD = Q9 at *
    generalize (P1 ++ (x.1, x.2 + 1 + v1.fmod 5) :: P2).map twoD = Q7 at *
    generalize (P1 ++ (x.1 + 1, x.2) :: P2).map twoD = Q8 at *
    generalize (P.take 1).map twoD = PT at *
    generalize P1.map twoD = PD1 at *
    generalize P2.map twoD = PD2 at *
    generalize (lists r).map twoD = A at *
    generalize P.map twoD = PD at *
    generalize W.map twoD = WD at *
    generalize ws.map twoD = wd at *
    generalize (l.drop 5).map D.int = l5 at *
    generalize (l.drop 40).map D.int = l40 at *
    generalize (l.drop 60).map D.int = l60 at *
    generalize l.map D.int = ll2 at *
    generalize r.map D.int = rr at *
    generalize o1.map D.int = oo1 at *
    generalize o2.map D.int = oo2 at *
    generalize o3.map D.int = oo3 at *
    generalize o4.map D.int = oo4 at *
    generalize r2.map D.int = rr2 at *
    generalize (P.length : Int) = pn at *
    generalize (k : Int) = ki at *
    unfold f_law runF m_law
    show outF (mSeq _ _ [some (.scr ns), none, none, none, none, none, none, none, none]) = _
    rw [seq_nx (r' := [some (.scr ns), some (.lst ll2), none, none, none, none, none, none, none]) (by simp [e1'])]
    rw [seq_nx (r' := [some (.scr ns), some (.lst ll2), some (.lst rr), none, none, none, none, none, none]) (by simp [c5, g0, em, er', s3, -dIdx])]
    rw [seq_nx (r' := [some (.scr ns), some (.lst ll2), some (.lst rr), some (.lst WD), none, none, none, none, none]) (by simp [c40, ew', g1, g2, g3, eT, mo, s2, s1, eW, lwz, -dIdx])]
    rw [seq_nx (r' := [some (.scr ns), some (.lst ll2), some (.lst rr), some (.lst WD), some (.lst PD), none, none, none, none]) (by simp [lL, ad])]
    rw [seq_nx (r' := [some (.scr ns), some (.lst ll2), some (.lst rr), some (.lst WD), some (.lst PD), some (.lst [.lst rr, .lst oo1, .lst rr2]), none, none, none]) (by simp [eo1, c60, er2', s3])]
    rw [seq_nx (r' := [some (.scr ns), some (.lst ll2), some (.lst rr), some (.lst WD), some (.lst PD), some (.lst [.lst rr, .lst oo1, .lst rr2, .lst oo2, .lst oo3, .lst oo4]), some (.int ki), some (.lst Q7), none]) (by
      simp [nP', g4, g1, lenP, nz, ek, pk, ct, cd, c1, t0, t1, s1, s2, z7a, z7b, z9, e7, e8, e9, eo2, eo3, eo4, t3, t4, t5, -dIdx, -fLen])]
    unfold mSeq mRet
    rw [fi']
    rfl


def methS (i j : Nat) : Stmt := match PySem.Challenge.pw_creelway_k31_whole_kin_or_what_bars.main.body.getD i (.Pass ⟨0, 0, 0, 0⟩) with
  | .ClassDef _ _ _ b _ _ _ _ _ _ _ => b.getD j (.Pass ⟨0, 0, 0, 0⟩)
  | s => s
def initS (i : Nat) : Stmt := match PySem.Challenge.pw_creelway_k31_whole_kin_or_what_bars.main.body.getD i (.Pass ⟨0, 0, 0, 0⟩) with
  | .ClassDef _ _ _ b _ _ _ _ _ _ _ => b.getD 0 (.Pass ⟨0, 0, 0, 0⟩)
  | s => s
def topS (i : Nat) : Stmt := PySem.Challenge.pw_creelway_k31_whole_kin_or_what_bars.main.body.getD i (.Pass ⟨0, 0, 0, 0⟩)
theorem nq_BadCreel : NmOk "BadCreel" := by constructor <;> decide
theorem nq_BadRow : NmOk "BadRow" := by constructor <;> decide
theorem nq_MOST_STONES : NmOk "MOST_STONES" := by constructor <;> decide
theorem nq_TooMany : NmOk "TooMany" := by constructor <;> decide
theorem nq__law_adds : NmOk "_law_adds" := by constructor <;> decide
theorem nq__law_again : NmOk "_law_again" := by constructor <;> decide
theorem nq__law_at : NmOk "_law_at" := by constructor <;> decide
theorem nq__law_bar : NmOk "_law_bar" := by constructor <;> decide
theorem nq__law_bars : NmOk "_law_bars" := by constructor <;> decide
theorem nq__law_bars_here : NmOk "_law_bars_here" := by constructor <;> decide
theorem nq__law_by : NmOk "_law_by" := by constructor <;> decide
theorem nq__law_cell : NmOk "_law_cell" := by constructor <;> decide
theorem nq__law_count : NmOk "_law_count" := by constructor <;> decide
theorem nq__law_creel : NmOk "_law_creel" := by constructor <;> decide
theorem nq__law_creels : NmOk "_law_creels" := by constructor <;> decide
theorem nq__law_cut : NmOk "_law_cut" := by constructor <;> decide
theorem nq__law_d : NmOk "_law_d" := by constructor <;> decide
theorem nq__law_due : NmOk "_law_due" := by constructor <;> decide
theorem nq__law_found : NmOk "_law_found" := by constructor <;> decide
theorem nq__law_handed : NmOk "_law_handed" := by constructor <;> decide
theorem nq__law_here : NmOk "_law_here" := by constructor <;> decide
theorem nq__law_k : NmOk "_law_k" := by constructor <;> decide
theorem nq__law_left : NmOk "_law_left" := by constructor <;> decide
theorem nq__law_lesser : NmOk "_law_lesser" := by constructor <;> decide
theorem nq__law_list : NmOk "_law_list" := by constructor <;> decide
theorem nq__law_long_row : NmOk "_law_long_row" := by constructor <;> decide
theorem nq__law_many : NmOk "_law_many" := by constructor <;> decide
theorem nq__law_more : NmOk "_law_more" := by constructor <;> decide
theorem nq__law_most : NmOk "_law_most" := by constructor <;> decide
theorem nq__law_numbers : NmOk "_law_numbers" := by constructor <;> decide
theorem nq__law_numbers_here : NmOk "_law_numbers_here" := by constructor <;> decide
theorem nq__law_offset : NmOk "_law_offset" := by constructor <;> decide
theorem nq__law_offsets : NmOk "_law_offsets" := by constructor <;> decide
theorem nq__law_one : NmOk "_law_one" := by constructor <;> decide
theorem nq__law_other : NmOk "_law_other" := by constructor <;> decide
theorem nq__law_others : NmOk "_law_others" := by constructor <;> decide
theorem nq__law_own : NmOk "_law_own" := by constructor <;> decide
theorem nq__law_pair : NmOk "_law_pair" := by constructor <;> decide
theorem nq__law_pairs : NmOk "_law_pairs" := by constructor <;> decide
theorem nq__law_place : NmOk "_law_place" := by constructor <;> decide
theorem nq__law_rest : NmOk "_law_rest" := by constructor <;> decide
theorem nq__law_right : NmOk "_law_right" := by constructor <;> decide
theorem nq__law_ripe : NmOk "_law_ripe" := by constructor <;> decide
theorem nq__law_row : NmOk "_law_row" := by constructor <;> decide
theorem nq__law_row_here : NmOk "_law_row_here" := by constructor <;> decide
theorem nq__law_same : NmOk "_law_same" := by constructor <;> decide
theorem nq__law_script : NmOk "_law_script" := by constructor <;> decide
theorem nq__law_seed : NmOk "_law_seed" := by constructor <;> decide
theorem nq__law_size : NmOk "_law_size" := by constructor <;> decide
theorem nq__law_sizes : NmOk "_law_sizes" := by constructor <;> decide
theorem nq__law_step : NmOk "_law_step" := by constructor <;> decide
theorem nq__law_stones : NmOk "_law_stones" := by constructor <;> decide
theorem nq__law_ten : NmOk "_law_ten" := by constructor <;> decide
theorem nq__law_there : NmOk "_law_there" := by constructor <;> decide
theorem nq__law_walks : NmOk "_law_walks" := by constructor <;> decide
theorem nq__law_walks_here : NmOk "_law_walks_here" := by constructor <;> decide
theorem nq__law_walks_right : NmOk "_law_walks_right" := by constructor <;> decide
theorem nq_added_to : NmOk "added_to" := by constructor <;> decide
theorem nq_at : NmOk "at" := by constructor <;> decide
theorem nq_bar : NmOk "bar" := by constructor <;> decide
theorem nq_bar_of : NmOk "bar_of" := by constructor <;> decide
theorem nq_best : NmOk "best" := by constructor <;> decide
theorem nq_by : NmOk "by" := by constructor <;> decide
theorem nq_by_walks : NmOk "by_walks" := by constructor <;> decide
theorem nq_count : NmOk "count" := by constructor <;> decide
theorem nq_creel : NmOk "creel" := by constructor <;> decide
theorem nq_far : NmOk "far" := by constructor <;> decide
theorem nq_first : NmOk "first" := by constructor <;> decide
theorem nq_found : NmOk "found" := by constructor <;> decide
theorem nq_fresh : NmOk "fresh" := by constructor <;> decide
theorem nq_grown : NmOk "grown" := by constructor <;> decide
theorem nq_here : NmOk "here" := by constructor <;> decide
theorem nq_kin : NmOk "kin" := by constructor <;> decide
theorem nq_left : NmOk "left" := by constructor <;> decide
theorem nq_list_of : NmOk "list_of" := by constructor <;> decide
theorem nq_longest_ripe : NmOk "longest_ripe" := by constructor <;> decide
theorem nq_look_creel : NmOk "look_creel" := by constructor <;> decide
theorem nq_look_row : NmOk "look_row" := by constructor <;> decide
theorem nq_look_walks : NmOk "look_walks" := by constructor <;> decide
theorem nq_made : NmOk "made" := by constructor <;> decide
theorem nq_many : NmOk "many" := by constructor <;> decide
theorem nq_mark : NmOk "mark" := by constructor <;> decide
theorem nq_next_place : NmOk "next_place" := by constructor <;> decide
theorem nq_offset : NmOk "offset" := by constructor <;> decide
theorem nq_offsets_of : NmOk "offsets_of" := by constructor <;> decide
theorem nq_one : NmOk "one" := by constructor <;> decide
theorem nq_other : NmOk "other" := by constructor <;> decide
theorem nq_own : NmOk "own" := by constructor <;> decide
theorem nq_pairs : NmOk "pairs" := by constructor <;> decide
theorem nq_place : NmOk "place" := by constructor <;> decide
theorem nq_row : NmOk "row" := by constructor <;> decide
theorem nq_second : NmOk "second" := by constructor <;> decide
theorem nq_share : NmOk "share" := by constructor <;> decide
theorem nq_shortest_ripe : NmOk "shortest_ripe" := by constructor <;> decide
theorem nq_shrunk : NmOk "shrunk" := by constructor <;> decide
theorem nq_size : NmOk "size" := by constructor <;> decide
theorem nq_sizes : NmOk "sizes" := by constructor <;> decide
theorem nq_steps_by_size : NmOk "steps_by_size" := by constructor <;> decide
theorem nq_stones_of : NmOk "stones_of" := by constructor <;> decide
theorem nq_there : NmOk "there" := by constructor <;> decide
theorem nq_trains : NmOk "trains" := by constructor <;> decide
theorem nq_walks : NmOk "walks" := by constructor <;> decide
theorem nq_walks_by : NmOk "walks_by" := by constructor <;> decide
abbrev st_look_row : Stmt := topS 7
abbrev N_look_row : List Str := ["row", "at"]
theorem sc_look_row : FnScope N_look_row ["row"] (defScope st_look_row) := ⟨rfl, rfl, rfl, by decide +kernel, rfl, by decide +kernel, by decide +kernel⟩
theorem nd_look_row : N_look_row.Nodup := sc_look_row.nd
theorem ok_look_row [md : Md] {P : Program} {w : World} {K : PySem.W.Frag} {mg : Str → Option Value} {base : Heap} {cl : Cl} {fa : Addr} {fd : FuncData} (B : Bl mg) (hK : cl.K = K) (F : Fun K "look_row" "look_row" st_look_row fa fd) (gm : mg "look_row" = some (.ref fa)) (bn : Binds K fd ["row"] []) {t_MOST_STONES : Tok} (C_MOST_STONES : mg "MOST_STONES" = some (.int 60 t_MOST_STONES)) (X_BadRow : XAt P w K mg base cl "BadRow" 1) (X_TooMany : XPlain K mg cl "TooMany") : Fi P w K mg base cl "look_row" 3 [false] .val f_look_row := by
  refine def_ok (ls := [.val]) (m := m_look_row) (ks' := [.bor, .val]) F sc_look_row gm bn rfl rfl rfl (.inl rfl) (fun cdv A outer s H E h0 s0 b0 hr => ?_)
  exact (sb_cons (ss_if (st_cmp op_gt opv_gt nox_gt ((sf_Len B (sa_b (se_varB (i := 0) (hq := nq_row)) sa_nil))).valBor ((se_globI C_MOST_STONES nq_MOST_STONES)).valBor)
  (sb_cons (ss_raise rfl X_TooMany nq_TooMany)
  sb_nil)
  sb_nil)
  (sb_cons (ss_for (passes_of rfl) rfl (si_range2 B.range (se_int).valBor ((sf_Len B (sa_b (se_varB (i := 0) (hq := nq_row)) sa_nil))).valBor) (sg_name nd_look_row) (fun s => (sb_cons (ss_if (st_cmp op_le opv_le nox_le ((se_ix (se_varB (i := 0) (hq := nq_row)) ((se_var (i := 1) (hq := nq_at))).valBor)).valBor ((se_ix (se_varB (i := 0) (hq := nq_row)) ((se_sub ((se_var (i := 1) (hq := nq_at))).valBor (se_int).valBor)).valBor)).valBor)
  (sb_cons (ss_raiseAt rfl X_BadRow (hr.mono (by decide)) (se_var (i := 1) (hq := nq_at)) nq_BadRow)
  sb_nil)
  sb_nil)
  sb_nil)) (by first | decide | simp [Tg.is]))
  sb_nil))
abbrev st_look_creel : Stmt := topS 9
abbrev N_look_creel : List Str := ["creel"]
theorem sc_look_creel : FnScope N_look_creel ["creel"] (defScope st_look_creel) := ⟨rfl, rfl, rfl, by decide +kernel, rfl, by decide +kernel, by decide +kernel⟩
theorem nd_look_creel : N_look_creel.Nodup := sc_look_creel.nd
theorem ok_look_creel [md : Md] {P : Program} {w : World} {K : PySem.W.Frag} {mg : Str → Option Value} {base : Heap} {cl : Cl} {fa : Addr} {fd : FuncData} (B : Bl mg) (hK : cl.K = K) (F : Fun K "look_creel" "look_creel" st_look_creel fa fd) (gm : mg "look_creel" = some (.ref fa)) (bn : Binds K fd ["creel"] []) (X_BadCreel : XPlain K mg cl "BadCreel") : Fi P w K mg base cl "look_creel" 1 [false] .val f_look_creel := by
  refine def_ok (ls := []) (m := m_look_creel) (ks' := [.bor]) F sc_look_creel gm bn rfl rfl rfl (.inl rfl) (fun cdv A outer s H E h0 s0 b0 hr => ?_)
  exact (sb_cons (ss_if (st_cmp op_lt opv_lt nox_lt (se_varB (i := 0) (hq := nq_creel)) (se_int).valBor)
  (sb_cons (ss_raise rfl X_BadCreel nq_BadCreel)
  sb_nil)
  sb_nil)
  sb_nil)
abbrev st_share : Stmt := topS 11
abbrev N_share : List Str := ["trains", "size", "own", "offset"]
theorem sc_share : FnScope N_share ["trains", "size"] (defScope st_share) := ⟨rfl, rfl, rfl, by decide +kernel, rfl, by decide +kernel, by decide +kernel⟩
theorem nd_share : N_share.Nodup := sc_share.nd
theorem ok_share [md : Md] {P : Program} {w : World} {K : PySem.W.Frag} {mg : Str → Option Value} {base : Heap} {cl : Cl} {fa : Addr} {fd : FuncData} (B : Bl mg) (hK : cl.K = K) (F : Fun K "share" "share" st_share fa fd) (gm : mg "share" = some (.ref fa)) (bn : Binds K fd ["trains", "size"] [])  : Fi P w K mg base cl "share" 1 [false, false] .val f_share := by
  refine def_ok (ls := [.val, .val]) (m := m_share) (ks' := []) F sc_share gm bn rfl rfl rfl (.inl rfl) (fun cdv A outer s H E h0 s0 b0 hr => ?_)
  exact (sb_cons (ss_ret (sf_Sum B (sa_b (SE.toBor (se_comp [("own", 2), ("offset", 3)] rfl nd_share (si_it (sq_bor (se_varB (i := 0) (hq := nq_trains)))) (blkOk_by (N := N_share) (sc := defScope st_share) (own := [("own", 2), ("offset", 3)]) (by decide +kernel)) (by decide) (by decide) (fun _ _ _ _ _ => sg_tup rfl (sgs_cons nd_share (sgs_cons nd_share sgs_nil))) (fun _ _ _ _ _ => sp_nil) (fun _ _ _ _ _ => (sf_Min2 B (sa_b (se_varB (i := 1) (hq := nq_size)) (sa_b ((se_var (i := 2) (hq := nq_own))).valBor sa_nil)))))) sa_nil)))
  sb_nil)
abbrev st_mark : Stmt := topS 12
abbrev N_mark : List Str := ["trains", "size", "place"]
theorem sc_mark : FnScope N_mark ["trains", "size", "place"] (defScope st_mark) := ⟨rfl, rfl, rfl, by decide +kernel, rfl, by decide +kernel, by decide +kernel⟩
theorem nd_mark : N_mark.Nodup := sc_mark.nd
theorem ok_mark [md : Md] {P : Program} {w : World} {K : PySem.W.Frag} {mg : Str → Option Value} {base : Heap} {cl : Cl} {fa : Addr} {fd : FuncData} (B : Bl mg) (hK : cl.K = K) (F : Fun K "mark" "mark" st_mark fa fd) (gm : mg "mark" = some (.ref fa)) (bn : Binds K fd ["trains", "size", "place"] []) (F_share : Fi P w K mg base cl "share" 1 [false, false] .val f_share) : Fi P w K mg base cl "mark" 2 [false, false, false] .val f_mark := by
  refine def_ok (ls := []) (m := m_mark) (ks' := []) F sc_mark gm bn rfl rfl rfl (.inl rfl) (fun cdv A outer s H E h0 s0 b0 hr => ?_)
  exact (sb_cons (ss_ret (se_sub (se_varB (i := 2) (hq := nq_place)) ((se_mul (se_int).valBor ((se_call F_share (hr.mono (by decide)) (sa_b (se_varB (i := 0) (hq := nq_trains)) (sa_b (se_varB (i := 1) (hq := nq_size)) sa_nil)) nq_share)).valBor)).toBor))
  sb_nil)
abbrev st_longest_ripe : Stmt := topS 13
abbrev N_longest_ripe : List Str := ["found", "place", "best", "size", "offset"]
theorem sc_longest_ripe : FnScope N_longest_ripe ["found", "place"] (defScope st_longest_ripe) := ⟨rfl, rfl, rfl, by decide +kernel, rfl, by decide +kernel, by decide +kernel⟩
theorem nd_longest_ripe : N_longest_ripe.Nodup := sc_longest_ripe.nd
theorem ok_longest_ripe [md : Md] {P : Program} {w : World} {K : PySem.W.Frag} {mg : Str → Option Value} {base : Heap} {cl : Cl} {fa : Addr} {fd : FuncData} (B : Bl mg) (hK : cl.K = K) (F : Fun K "longest_ripe" "longest_ripe" st_longest_ripe fa fd) (gm : mg "longest_ripe" = some (.ref fa)) (bn : Binds K fd ["found", "place"] []) (F_mark : Fi P w K mg base cl "mark" 2 [false, false, false] .val f_mark) : Fi P w K mg base cl "longest_ripe" 3 [false, false] .val f_longest_ripe := by
  refine def_ok (ls := [.val, .val, .val]) (m := m_longest_ripe) (ks' := []) F sc_longest_ripe gm bn rfl rfl rfl (.inl rfl) (fun cdv A outer s H E h0 s0 b0 hr => ?_)
  exact (sb_cons (ss_set (i := 2) nd_longest_ripe se_int)
  (sb_cons (ss_for (passes_of rfl) rfl (si_it (sq_par (i := 0) (hq := nq_found))) (sg_tup rfl (sgs_cons nd_longest_ripe (sgs_cons nd_longest_ripe sgs_nil))) (fun s => (sb_cons (ss_if (st_of (sw_and (st_cmp op_gt opv_gt nox_gt ((se_var (i := 3) (hq := nq_size))).valBor ((se_var (i := 2) (hq := nq_best))).valBor) (sw_and1 (st_cmp (op_eqD hr.units) opv_eq nox_eq ((se_var (i := 4) (hq := nq_offset))).valBor ((se_call F_mark (hr.mono (by decide)) (sa_b (se_varB (i := 0) (hq := nq_found)) (sa_b ((se_var (i := 3) (hq := nq_size))).valBor (sa_b (se_varB (i := 1) (hq := nq_place)) sa_nil))) nq_mark)).valBor))))
  (sb_cons (ss_set (i := 2) nd_longest_ripe (se_var (i := 3) (hq := nq_size)))
  sb_nil)
  sb_nil)
  sb_nil)) (by first | decide | simp [Tg.is]))
  (sb_cons (ss_ret (se_var (i := 2) (hq := nq_best)))
  sb_nil)))
abbrev st_grown : Stmt := topS 14
abbrev N_grown : List Str := ["found", "place", "size", "fresh", "many"]
theorem sc_grown : FnScope N_grown ["found", "place"] (defScope st_grown) := ⟨rfl, rfl, rfl, by decide +kernel, rfl, by decide +kernel, by decide +kernel⟩
theorem nd_grown : N_grown.Nodup := sc_grown.nd
theorem ok_grown [md : Md] {P : Program} {w : World} {K : PySem.W.Frag} {mg : Str → Option Value} {base : Heap} {cl : Cl} {fa : Addr} {fd : FuncData} (B : Bl mg) (hK : cl.K = K) (F : Fun K "grown" "grown" st_grown fa fd) (gm : mg "grown" = some (.ref fa)) (bn : Binds K fd ["found", "place"] []) (F_longest_ripe : Fi P w K mg base cl "longest_ripe" 3 [false, false] .val f_longest_ripe) (F_mark : Fi P w K mg base cl "mark" 2 [false, false, false] .val f_mark) (F_share : Fi P w K mg base cl "share" 1 [false, false] .val f_share) : Fi P w K mg base cl "grown" 4 [false, false] (.own none) f_grown := by
  refine def_ok (ls := [.val, .own none, .val]) (m := m_grown) (ks' := []) F sc_grown gm bn rfl rfl rfl (.inr rfl) (fun cdv A outer s H E h0 s0 b0 hr => ?_)
  exact (sb_cons (ss_set (i := 2) nd_grown (se_call F_longest_ripe (hr.mono (by decide)) (sa_b (se_varB (i := 0) (hq := nq_found)) (sa_b ((se_sub (se_varB (i := 1) (hq := nq_place)) (se_int).valBor)).valBor sa_nil)) nq_longest_ripe))
  (sb_cons (ss_set (i := 3) nd_grown (sf_List B (sa_b (se_varB (i := 0) (hq := nq_found)) sa_nil)))
  (sb_cons (ss_if (st_cmp op_gt opv_gt nox_gt ((se_var (i := 2) (hq := nq_size))).valBor (se_int).valBor)
  (sb_cons (ss_remove hr.units65 (i := 3) (hq := nq_fresh) (se_tup (n := 2) (sa_v (se_var (i := 2) (hq := nq_size)) (sa_v (se_call F_mark (hr.mono (by decide)) (sa_b (se_varB (i := 0) (hq := nq_found)) (sa_b ((se_var (i := 2) (hq := nq_size))).valBor (sa_b ((se_sub (se_varB (i := 1) (hq := nq_place)) (se_int).valBor)).valBor sa_nil))) nq_mark) sa_nil))))
  sb_nil)
  sb_nil)
  (sb_cons (ss_set (i := 4) nd_grown ((se_add ((se_add ((se_call F_share (hr.mono (by decide)) (sa_b (se_varB (i := 3) (hq := nq_fresh)) (sa_b ((se_add ((se_var (i := 2) (hq := nq_size))).valBor (se_int).valBor)).toBor sa_nil)) nq_share)).valBor ((se_var (i := 2) (hq := nq_size))).valBor)).toBor (se_int).valBor)).toVal)
  (sb_cons (ss_append (i := 3) (hq := nq_fresh) (se_tup (n := 2) (sa_v ((se_add ((se_var (i := 2) (hq := nq_size))).valBor (se_int).valBor)).toVal (sa_v (se_sub (se_varB (i := 1) (hq := nq_place)) ((se_mul (se_int).valBor ((se_var (i := 4) (hq := nq_many))).valBor)).toBor) sa_nil))))
  (sb_cons (ss_retV (i := 3) (hq := nq_fresh))
  sb_nil))))))
abbrev st_list_of : Stmt := topS 15
abbrev N_list_of : List Str := ["row", "found", "place"]
theorem sc_list_of : FnScope N_list_of ["row"] (defScope st_list_of) := ⟨rfl, rfl, rfl, by decide +kernel, rfl, by decide +kernel, by decide +kernel⟩
theorem nd_list_of : N_list_of.Nodup := sc_list_of.nd
theorem ok_list_of [md : Md] {P : Program} {w : World} {K : PySem.W.Frag} {mg : Str → Option Value} {base : Heap} {cl : Cl} {fa : Addr} {fd : FuncData} (B : Bl mg) (hK : cl.K = K) (F : Fun K "list_of" "list_of" st_list_of fa fd) (gm : mg "list_of" = some (.ref fa)) (bn : Binds K fd ["row"] []) (F_grown : Fi P w K mg base cl "grown" 4 [false, false] (.own none) f_grown) : Fi P w K mg base cl "list_of" 5 [false] (.own none) f_list_of := by
  refine def_ok (ls := [.val, .val]) (m := m_list_of) (ks' := []) F sc_list_of gm bn rfl rfl rfl (.inr rfl) (fun cdv A outer s H E h0 s0 b0 hr => ?_)
  exact (sb_cons (ss_set (i := 1) nd_list_of ((se_lst (n := 0) sa_nil)).toVal)
  (sb_cons (ss_for (passes_of rfl) rfl (si_it (sq_par (i := 0) (hq := nq_row))) (sg_name nd_list_of) (fun s => (sb_cons (ss_set (i := 1) nd_list_of ((se_call F_grown (hr.mono (by decide)) (sa_b ((se_var (i := 1) (hq := nq_found))).valBor (sa_b ((se_var (i := 2) (hq := nq_place))).valBor sa_nil)) nq_grown)).toVal)
  sb_nil)) (by first | decide | simp [Tg.is]))
  (sb_cons (ss_ret (sf_Sorted B (sa_b ((se_var (i := 1) (hq := nq_found))).valBor sa_nil)))
  sb_nil)))
abbrev st_trains : Stmt := topS 16
abbrev N_trains : List Str := ["row"]
theorem sc_trains : FnScope N_trains ["row"] (defScope st_trains) := ⟨rfl, rfl, rfl, by decide +kernel, rfl, by decide +kernel, by decide +kernel⟩
theorem nd_trains : N_trains.Nodup := sc_trains.nd
theorem ok_trains [md : Md] {P : Program} {w : World} {K : PySem.W.Frag} {mg : Str → Option Value} {base : Heap} {cl : Cl} {fa : Addr} {fd : FuncData} (B : Bl mg) (hK : cl.K = K) (F : Fun K "trains" "trains" st_trains fa fd) (gm : mg "trains" = some (.ref fa)) (bn : Binds K fd ["row"] []) (F_look_row : Fi P w K mg base cl "look_row" 3 [false] .val f_look_row) (F_list_of : Fi P w K mg base cl "list_of" 5 [false] (.own none) f_list_of) : Fi P w K mg base cl "trains" 6 [false] (.own none) f_trains := by
  refine def_ok (ls := []) (m := m_trains) (ks' := []) F sc_trains gm bn rfl rfl rfl (.inr rfl) (fun cdv A outer s H E h0 s0 b0 hr => ?_)
  exact (sb_cons (ss_expr (se_call F_look_row (hr.mono (by decide)) (sa_b (se_varB (i := 0) (hq := nq_row)) sa_nil) nq_look_row))
  (sb_cons (ss_ret (se_call F_list_of (hr.mono (by decide)) (sa_b (se_varB (i := 0) (hq := nq_row)) sa_nil) nq_list_of))
  sb_nil))
abbrev st_next_place : Stmt := topS 17
abbrev N_next_place : List Str := ["left", "size", "offset"]
theorem sc_next_place : FnScope N_next_place ["left"] (defScope st_next_place) := ⟨rfl, rfl, rfl, by decide +kernel, rfl, by decide +kernel, by decide +kernel⟩
theorem nd_next_place : N_next_place.Nodup := sc_next_place.nd
theorem ok_next_place [md : Md] {P : Program} {w : World} {K : PySem.W.Frag} {mg : Str → Option Value} {base : Heap} {cl : Cl} {fa : Addr} {fd : FuncData} (B : Bl mg) (hK : cl.K = K) (F : Fun K "next_place" "next_place" st_next_place fa fd) (gm : mg "next_place" = some (.ref fa)) (bn : Binds K fd ["left"] []) (F_share : Fi P w K mg base cl "share" 1 [false, false] .val f_share) : Fi P w K mg base cl "next_place" 2 [false] .val f_next_place := by
  refine def_ok (ls := [.val, .val]) (m := m_next_place) (ks' := []) F sc_next_place gm bn rfl rfl rfl (.inl rfl) (fun cdv A outer s H E h0 s0 b0 hr => ?_)
  exact (sb_cons (ss_ret (sf_Max1 B (sa_b (SE.toBor (se_comp [("size", 1), ("offset", 2)] rfl nd_next_place (si_it (sq_bor (se_varB (i := 0) (hq := nq_left)))) (blkOk_by (N := N_next_place) (sc := defScope st_next_place) (own := [("size", 1), ("offset", 2)]) (by decide +kernel)) (by decide) (by decide) (fun _ _ _ _ _ => sg_tup rfl (sgs_cons nd_next_place (sgs_cons nd_next_place sgs_nil))) (fun _ _ _ _ _ => sp_nil) (fun _ _ _ _ _ => ((se_add ((se_var (i := 2) (hq := nq_offset))).valBor ((se_mul (se_int).valBor ((se_call F_share (hr.mono (by decide)) (sa_b (se_varB (i := 0) (hq := nq_left)) (sa_b ((se_var (i := 1) (hq := nq_size))).valBor sa_nil)) nq_share)).valBor)).toBor)).toVal))) sa_nil)))
  sb_nil)
abbrev st_shortest_ripe : Stmt := topS 18
abbrev N_shortest_ripe : List Str := ["left", "place", "size", "offset"]
theorem sc_shortest_ripe : FnScope N_shortest_ripe ["left", "place"] (defScope st_shortest_ripe) := ⟨rfl, rfl, rfl, by decide +kernel, rfl, by decide +kernel, by decide +kernel⟩
theorem nd_shortest_ripe : N_shortest_ripe.Nodup := sc_shortest_ripe.nd
theorem ok_shortest_ripe [md : Md] {P : Program} {w : World} {K : PySem.W.Frag} {mg : Str → Option Value} {base : Heap} {cl : Cl} {fa : Addr} {fd : FuncData} (B : Bl mg) (hK : cl.K = K) (F : Fun K "shortest_ripe" "shortest_ripe" st_shortest_ripe fa fd) (gm : mg "shortest_ripe" = some (.ref fa)) (bn : Binds K fd ["left", "place"] []) (F_mark : Fi P w K mg base cl "mark" 2 [false, false, false] .val f_mark) : Fi P w K mg base cl "shortest_ripe" 3 [false, false] .val f_shortest_ripe := by
  refine def_ok (ls := [.val, .val]) (m := m_shortest_ripe) (ks' := []) F sc_shortest_ripe gm bn rfl rfl rfl (.inl rfl) (fun cdv A outer s H E h0 s0 b0 hr => ?_)
  exact (sb_cons (ss_ret (sf_Min1 B (sa_b (SE.toBor (se_comp [("size", 2), ("offset", 3)] rfl nd_shortest_ripe (si_it (sq_bor (se_varB (i := 0) (hq := nq_left)))) (blkOk_by (N := N_shortest_ripe) (sc := defScope st_shortest_ripe) (own := [("size", 2), ("offset", 3)]) (by decide +kernel)) (by decide) (by decide) (fun _ _ _ _ _ => sg_tup rfl (sgs_cons nd_shortest_ripe (sgs_cons nd_shortest_ripe sgs_nil))) (fun _ _ _ _ _ => (sp_one (st_cmp (op_eqD hr.units) opv_eq nox_eq ((se_var (i := 3) (hq := nq_offset))).valBor ((se_call F_mark (hr.mono (by decide)) (sa_b (se_varB (i := 0) (hq := nq_left)) (sa_b ((se_var (i := 2) (hq := nq_size))).valBor (sa_b (se_varB (i := 1) (hq := nq_place)) sa_nil))) nq_mark)).valBor))) (fun _ _ _ _ _ => (se_var (i := 2) (hq := nq_size))))) sa_nil)))
  sb_nil)
abbrev st_shrunk : Stmt := topS 19
abbrev N_shrunk : List Str := ["left", "place", "size", "fresh", "many"]
theorem sc_shrunk : FnScope N_shrunk ["left", "place"] (defScope st_shrunk) := ⟨rfl, rfl, rfl, by decide +kernel, rfl, by decide +kernel, by decide +kernel⟩
theorem nd_shrunk : N_shrunk.Nodup := sc_shrunk.nd
theorem ok_shrunk [md : Md] {P : Program} {w : World} {K : PySem.W.Frag} {mg : Str → Option Value} {base : Heap} {cl : Cl} {fa : Addr} {fd : FuncData} (B : Bl mg) (hK : cl.K = K) (F : Fun K "shrunk" "shrunk" st_shrunk fa fd) (gm : mg "shrunk" = some (.ref fa)) (bn : Binds K fd ["left", "place"] []) (F_shortest_ripe : Fi P w K mg base cl "shortest_ripe" 3 [false, false] .val f_shortest_ripe) (F_mark : Fi P w K mg base cl "mark" 2 [false, false, false] .val f_mark) (F_share : Fi P w K mg base cl "share" 1 [false, false] .val f_share) : Fi P w K mg base cl "shrunk" 4 [false, false] (.own none) f_shrunk := by
  refine def_ok (ls := [.val, .own none, .val]) (m := m_shrunk) (ks' := []) F sc_shrunk gm bn rfl rfl rfl (.inr rfl) (fun cdv A outer s H E h0 s0 b0 hr => ?_)
  exact (sb_cons (ss_set (i := 2) nd_shrunk (se_call F_shortest_ripe (hr.mono (by decide)) (sa_b (se_varB (i := 0) (hq := nq_left)) (sa_b (se_varB (i := 1) (hq := nq_place)) sa_nil)) nq_shortest_ripe))
  (sb_cons (ss_set (i := 3) nd_shrunk (sf_List B (sa_b (se_varB (i := 0) (hq := nq_left)) sa_nil)))
  (sb_cons (ss_remove hr.units65 (i := 3) (hq := nq_fresh) (se_tup (n := 2) (sa_v (se_var (i := 2) (hq := nq_size)) (sa_v (se_call F_mark (hr.mono (by decide)) (sa_b (se_varB (i := 0) (hq := nq_left)) (sa_b ((se_var (i := 2) (hq := nq_size))).valBor (sa_b (se_varB (i := 1) (hq := nq_place)) sa_nil))) nq_mark) sa_nil))))
  (sb_cons (ss_if (st_cmp op_gt opv_gt nox_gt ((se_var (i := 2) (hq := nq_size))).valBor (se_int).valBor)
  (sb_cons (ss_set (i := 4) nd_shrunk (se_sub ((se_add ((se_call F_share (hr.mono (by decide)) (sa_b (se_varB (i := 3) (hq := nq_fresh)) (sa_b ((se_sub ((se_var (i := 2) (hq := nq_size))).valBor (se_int).valBor)).valBor sa_nil)) nq_share)).valBor ((se_var (i := 2) (hq := nq_size))).valBor)).toBor (se_int).valBor))
  (sb_cons (ss_append (i := 3) (hq := nq_fresh) (se_tup (n := 2) (sa_v (se_sub ((se_var (i := 2) (hq := nq_size))).valBor (se_int).valBor) (sa_v (se_sub ((se_sub (se_varB (i := 1) (hq := nq_place)) (se_int).valBor)).valBor ((se_mul (se_int).valBor ((se_var (i := 4) (hq := nq_many))).valBor)).toBor) sa_nil))))
  sb_nil))
  sb_nil)
  (sb_cons (ss_retV (i := 3) (hq := nq_fresh))
  sb_nil)))))
abbrev st_stones_of : Stmt := topS 20
abbrev N_stones_of : List Str := ["left", "found", "place"]
theorem sc_stones_of : FnScope N_stones_of ["left"] (defScope st_stones_of) := ⟨rfl, rfl, rfl, by decide +kernel, rfl, by decide +kernel, by decide +kernel⟩
theorem nd_stones_of : N_stones_of.Nodup := sc_stones_of.nd
theorem ok_stones_of [md : Md] {P : Program} {w : World} {K : PySem.W.Frag} {mg : Str → Option Value} {base : Heap} {cl : Cl} {fa : Addr} {fd : FuncData} (B : Bl mg) (hK : cl.K = K) (F : Fun K "stones_of" "stones_of" st_stones_of fa fd) (gm : mg "stones_of" = some (.ref fa)) (bn : Binds K fd ["left"] []) (F_next_place : Fi P w K mg base cl "next_place" 2 [false] .val f_next_place) (F_shrunk : Fi P w K mg base cl "shrunk" 4 [false, false] (.own none) f_shrunk) : Fi P w K mg base cl "stones_of" 5 [true] (.own none) f_stones_of := by
  refine def_ok (ls := [.own none, .val]) (m := m_stones_of) (ks' := []) F sc_stones_of gm bn rfl rfl rfl (.inr rfl) (fun cdv A outer s H E h0 s0 b0 hr => ?_)
  exact (sb_cons (ss_set (i := 1) nd_stones_of (se_lst (n := 0) sa_nil))
  (sb_cons (ss_while WB (passes_of rfl) (st_cmp (op_neD hr.units) opv_ne nox_ne ((se_var (i := 0) (hq := nq_left))).valBor ((se_lst (n := 0) sa_nil)).toBor)
  (sb_cons (ss_set (i := 2) nd_stones_of (se_call F_next_place (hr.mono (by decide)) (sa_b ((se_var (i := 0) (hq := nq_left))).valBor sa_nil) nq_next_place))
  (sb_cons (ss_append (i := 1) (hq := nq_found) (se_var (i := 2) (hq := nq_place)))
  (sb_cons (ss_set (i := 0) nd_stones_of ((se_call F_shrunk (hr.mono (by decide)) (sa_b ((se_var (i := 0) (hq := nq_left))).valBor (sa_b ((se_var (i := 2) (hq := nq_place))).valBor sa_nil)) nq_shrunk)).toVal)
  sb_nil))))
  (sb_cons (ss_ret (se_revL (se_varB (i := 1) (hq := nq_found))))
  sb_nil)))
abbrev st_look_walks : Stmt := topS 22
abbrev N_look_walks : List Str := ["walks", "creel", "count"]
theorem sc_look_walks : FnScope N_look_walks ["walks"] (defScope st_look_walks) := ⟨rfl, rfl, rfl, by decide +kernel, rfl, by decide +kernel, by decide +kernel⟩
theorem nd_look_walks : N_look_walks.Nodup := sc_look_walks.nd
theorem ok_look_walks [md : Md] {P : Program} {w : World} {K : PySem.W.Frag} {mg : Str → Option Value} {base : Heap} {cl : Cl} {fa : Addr} {fd : FuncData} (B : Bl mg) (hK : cl.K = K) (F : Fun K "look_walks" "look_walks" st_look_walks fa fd) (gm : mg "look_walks" = some (.ref fa)) (bn : Binds K fd ["walks"] []) (F_look_creel : Fi P w K mg base cl "look_creel" 1 [false] .val f_look_creel) : Fi P w K mg base cl "look_walks" 2 [false] .val f_look_walks := by
  refine def_ok (ls := [.val, .val]) (m := m_look_walks) (ks' := [.bor, .val, .val]) F sc_look_walks gm bn rfl rfl rfl (.inl rfl) (fun cdv A outer s H E h0 s0 b0 hr => ?_)
  exact (sb_cons (ss_for (passes_of rfl) rfl (si_it (sq_par (i := 0) (hq := nq_walks))) (sg_tup rfl (sgs_cons nd_look_walks (sgs_cons nd_look_walks sgs_nil))) (fun s => (sb_cons (ss_expr (se_call F_look_creel (hr.mono (by decide)) (sa_b ((se_var (i := 1) (hq := nq_creel))).valBor sa_nil) nq_look_creel))
  sb_nil)) (by first | decide | simp [Tg.is]))
  sb_nil)
abbrev st_by_walks : Stmt := topS 23
abbrev N_by_walks : List Str := ["walks", "size", "creel", "count"]
theorem sc_by_walks : FnScope N_by_walks ["walks", "size"] (defScope st_by_walks) := ⟨rfl, rfl, rfl, by decide +kernel, rfl, by decide +kernel, by decide +kernel⟩
theorem nd_by_walks : N_by_walks.Nodup := sc_by_walks.nd
theorem ok_by_walks [md : Md] {P : Program} {w : World} {K : PySem.W.Frag} {mg : Str → Option Value} {base : Heap} {cl : Cl} {fa : Addr} {fd : FuncData} (B : Bl mg) (hK : cl.K = K) (F : Fun K "by_walks" "by_walks" st_by_walks fa fd) (gm : mg "by_walks" = some (.ref fa)) (bn : Binds K fd ["walks", "size"] [])  : Fi P w K mg base cl "by_walks" 1 [false, false] .val f_by_walks := by
  refine def_ok (ls := [.val, .val]) (m := m_by_walks) (ks' := []) F sc_by_walks gm bn rfl rfl rfl (.inl rfl) (fun cdv A outer s H E h0 s0 b0 hr => ?_)
  exact (sb_cons (ss_ret (sf_Sum B (sa_b (SE.toBor (se_comp [("creel", 2), ("count", 3)] rfl nd_by_walks (si_it (sq_bor (se_varB (i := 0) (hq := nq_walks)))) (blkOk_by (N := N_by_walks) (sc := defScope st_by_walks) (own := [("creel", 2), ("count", 3)]) (by decide +kernel)) (by decide) (by decide) (fun _ _ _ _ _ => sg_tup rfl (sgs_cons nd_by_walks (sgs_cons nd_by_walks sgs_nil))) (fun _ _ _ _ _ => sp_nil) (fun _ _ _ _ _ => ((se_mul ((se_var (i := 3) (hq := nq_count))).valBor ((sf_Min2 B (sa_b ((se_var (i := 2) (hq := nq_creel))).valBor (sa_b (se_varB (i := 1) (hq := nq_size)) sa_nil)))).valBor)).toVal))) sa_nil)))
  sb_nil)
abbrev st_added_to : Stmt := topS 24
abbrev N_added_to : List Str := ["found", "walks", "size", "offset"]
theorem sc_added_to : FnScope N_added_to ["found", "walks"] (defScope st_added_to) := ⟨rfl, rfl, rfl, by decide +kernel, rfl, by decide +kernel, by decide +kernel⟩
theorem nd_added_to : N_added_to.Nodup := sc_added_to.nd
theorem ok_added_to [md : Md] {P : Program} {w : World} {K : PySem.W.Frag} {mg : Str → Option Value} {base : Heap} {cl : Cl} {fa : Addr} {fd : FuncData} (B : Bl mg) (hK : cl.K = K) (F : Fun K "added_to" "added_to" st_added_to fa fd) (gm : mg "added_to" = some (.ref fa)) (bn : Binds K fd ["found", "walks"] []) (F_by_walks : Fi P w K mg base cl "by_walks" 1 [false, false] .val f_by_walks) : Fi P w K mg base cl "added_to" 2 [false, false] (.own none) f_added_to := by
  refine def_ok (ls := [.val, .val]) (m := m_added_to) (ks' := []) F sc_added_to gm bn rfl rfl rfl (.inr rfl) (fun cdv A outer s H E h0 s0 b0 hr => ?_)
  exact (sb_cons (ss_ret (sf_Sorted B (sa_b (SE.toBor (se_comp [("size", 2), ("offset", 3)] rfl nd_added_to (si_it (sq_bor (se_varB (i := 0) (hq := nq_found)))) (blkOk_by (N := N_added_to) (sc := defScope st_added_to) (own := [("size", 2), ("offset", 3)]) (by decide +kernel)) (by decide) (by decide) (fun _ _ _ _ _ => sg_tup rfl (sgs_cons nd_added_to (sgs_cons nd_added_to sgs_nil))) (fun _ _ _ _ _ => sp_nil) (fun _ _ _ _ _ => (se_tup (n := 2) (sa_v (se_var (i := 2) (hq := nq_size)) (sa_v ((se_add ((se_var (i := 3) (hq := nq_offset))).valBor ((se_call F_by_walks (hr.mono (by decide)) (sa_b (se_varB (i := 1) (hq := nq_walks)) (sa_b ((se_var (i := 2) (hq := nq_size))).valBor sa_nil)) nq_by_walks)).valBor)).toVal sa_nil)))))) sa_nil)))
  sb_nil)
abbrev st_far : Stmt := topS 25
abbrev N_far : List Str := ["row", "walks"]
theorem sc_far : FnScope N_far ["row", "walks"] (defScope st_far) := ⟨rfl, rfl, rfl, by decide +kernel, rfl, by decide +kernel, by decide +kernel⟩
theorem nd_far : N_far.Nodup := sc_far.nd
theorem ok_far [md : Md] {P : Program} {w : World} {K : PySem.W.Frag} {mg : Str → Option Value} {base : Heap} {cl : Cl} {fa : Addr} {fd : FuncData} (B : Bl mg) (hK : cl.K = K) (F : Fun K "far" "far" st_far fa fd) (gm : mg "far" = some (.ref fa)) (bn : Binds K fd ["row", "walks"] []) (F_look_row : Fi P w K mg base cl "look_row" 3 [false] .val f_look_row) (F_look_walks : Fi P w K mg base cl "look_walks" 2 [false] .val f_look_walks) (F_list_of : Fi P w K mg base cl "list_of" 5 [false] (.own none) f_list_of) (F_added_to : Fi P w K mg base cl "added_to" 2 [false, false] (.own none) f_added_to) (F_stones_of : Fi P w K mg base cl "stones_of" 5 [true] (.own none) f_stones_of) : Fi P w K mg base cl "far" 6 [false, false] (.own none) f_far := by
  refine def_ok (ls := []) (m := m_far) (ks' := []) F sc_far gm bn rfl rfl rfl (.inr rfl) (fun cdv A outer s H E h0 s0 b0 hr => ?_)
  exact (sb_cons (ss_expr (se_call F_look_row (hr.mono (by decide)) (sa_b (se_varB (i := 0) (hq := nq_row)) sa_nil) nq_look_row))
  (sb_cons (ss_expr (se_call F_look_walks (hr.mono (by decide)) (sa_b (se_varB (i := 1) (hq := nq_walks)) sa_nil) nq_look_walks))
  (sb_cons (ss_ret (se_call F_stones_of (hr.mono (by decide)) (sa_v ((se_call F_added_to (hr.mono (by decide)) (sa_b ((se_call F_list_of (hr.mono (by decide)) (sa_b (se_varB (i := 0) (hq := nq_row)) sa_nil) nq_list_of)).toBor (sa_b (se_varB (i := 1) (hq := nq_walks)) sa_nil)) nq_added_to)).toVal sa_nil) nq_stones_of))
  sb_nil)))
abbrev st_offsets_of : Stmt := topS 27
abbrev N_offsets_of : List Str := ["found", "size", "own", "offset"]
theorem sc_offsets_of : FnScope N_offsets_of ["found", "size"] (defScope st_offsets_of) := ⟨rfl, rfl, rfl, by decide +kernel, rfl, by decide +kernel, by decide +kernel⟩
theorem nd_offsets_of : N_offsets_of.Nodup := sc_offsets_of.nd
theorem ok_offsets_of [md : Md] {P : Program} {w : World} {K : PySem.W.Frag} {mg : Str → Option Value} {base : Heap} {cl : Cl} {fa : Addr} {fd : FuncData} (B : Bl mg) (hK : cl.K = K) (F : Fun K "offsets_of" "offsets_of" st_offsets_of fa fd) (gm : mg "offsets_of" = some (.ref fa)) (bn : Binds K fd ["found", "size"] [])  : Fi P w K mg base cl "offsets_of" 1 [false, false] (.own none) f_offsets_of := by
  refine def_ok (ls := [.val, .val]) (m := m_offsets_of) (ks' := []) F sc_offsets_of gm bn rfl rfl rfl (.inr rfl) (fun cdv A outer s H E h0 s0 b0 hr => ?_)
  exact (sb_cons (ss_ret (se_comp [("own", 2), ("offset", 3)] rfl nd_offsets_of (si_it (sq_bor (se_varB (i := 0) (hq := nq_found)))) (blkOk_by (N := N_offsets_of) (sc := defScope st_offsets_of) (own := [("own", 2), ("offset", 3)]) (by decide +kernel)) (by decide) (by decide) (fun _ _ _ _ _ => sg_tup rfl (sgs_cons nd_offsets_of (sgs_cons nd_offsets_of sgs_nil))) (fun _ _ _ _ _ => (sp_one (st_cmp (op_eqD hr.units) opv_eq nox_eq ((se_var (i := 2) (hq := nq_own))).valBor (se_varB (i := 1) (hq := nq_size))))) (fun _ _ _ _ _ => (se_var (i := 3) (hq := nq_offset)))))
  sb_nil)
abbrev st_bar_of : Stmt := topS 28
abbrev N_bar_of : List Str := ["one", "other", "sizes", "size", "offset", "pairs", "here", "there"]
theorem sc_bar_of : FnScope N_bar_of ["one", "other"] (defScope st_bar_of) := ⟨rfl, rfl, rfl, by decide +kernel, rfl, by decide +kernel, by decide +kernel⟩
theorem nd_bar_of : N_bar_of.Nodup := sc_bar_of.nd
theorem ok_bar_of [md : Md] {P : Program} {w : World} {K : PySem.W.Frag} {mg : Str → Option Value} {base : Heap} {cl : Cl} {fa : Addr} {fd : FuncData} (B : Bl mg) (hK : cl.K = K) (F : Fun K "bar_of" "bar_of" st_bar_of fa fd) (gm : mg "bar_of" = some (.ref fa)) (bn : Binds K fd ["one", "other"] []) (F_offsets_of : Fi P w K mg base cl "offsets_of" 1 [false, false] (.own none) f_offsets_of) : Fi P w K mg base cl "bar_of" 2 [false, false] (.lls none (.own none)) f_bar_of := by
  refine def_okO (ls := [.val, .val, .val, .val, .val, .val]) (m := m_bar_of) (ks' := []) F sc_bar_of gm bn rfl rfl rfl (fun cdv A outer s H E h0 s0 b0 hr => ?_)
  exact (sb_cons (ss_set (i := 2) nd_bar_of ((se_sortedSet B (SE.toBor (se_comp [("size", 3), ("offset", 4)] rfl nd_bar_of (si_it (sq_val ((se_add (se_varB (i := 0) (hq := nq_one)) (se_varB (i := 1) (hq := nq_other)))).toVal)) (blkOk_by (N := N_bar_of) (sc := defScope st_bar_of) (own := [("size", 3), ("offset", 4)]) (by decide +kernel)) (by decide) (by decide) (fun _ _ _ _ _ => sg_tup rfl (sgs_cons nd_bar_of (sgs_cons nd_bar_of sgs_nil))) (fun _ _ _ _ _ => sp_nil) (fun _ _ _ _ _ => (se_var (i := 3) (hq := nq_size))))))).toVal)
  (sb_cons (ss_for (passes_of rfl) rfl (si_it (sq_val (se_var (i := 2) (hq := nq_sizes)))) (sg_name nd_bar_of) (fun s => (sb_cons (ss_if (st_cmp (op_neD hr.units) opv_ne nox_ne ((sf_Len B (sa_b ((se_call F_offsets_of (hr.mono (by decide)) (sa_b (se_varB (i := 0) (hq := nq_one)) (sa_b ((se_var (i := 3) (hq := nq_size))).valBor sa_nil)) nq_offsets_of)).toBor sa_nil))).valBor ((sf_Len B (sa_b ((se_call F_offsets_of (hr.mono (by decide)) (sa_b (se_varB (i := 1) (hq := nq_other)) (sa_b ((se_var (i := 3) (hq := nq_size))).valBor sa_nil)) nq_offsets_of)).toBor sa_nil))).valBor)
  (sb_cons (ss_ret (se_llsT (so_cons (se_plainO se_str) (so_cons (se_plainO (se_var (i := 3) (hq := nq_size))) so_nil))))
  sb_nil)
  sb_nil)
  sb_nil)) (by first | decide | simp [Tg.is]))
  (sb_cons (ss_for (passes_of rfl) rfl (si_it (sq_val (se_var (i := 2) (hq := nq_sizes)))) (sg_name nd_bar_of) (fun s => (sb_cons (ss_set (i := 5) nd_bar_of ((se_listZip B B.zip ((se_call F_offsets_of (hr.mono (by decide)) (sa_b (se_varB (i := 0) (hq := nq_one)) (sa_b ((se_var (i := 3) (hq := nq_size))).valBor sa_nil)) nq_offsets_of)).toBor ((se_call F_offsets_of (hr.mono (by decide)) (sa_b (se_varB (i := 1) (hq := nq_other)) (sa_b ((se_var (i := 3) (hq := nq_size))).valBor sa_nil)) nq_offsets_of)).toBor)).toVal)
  (sb_cons (ss_if (st_cmp op_gt opv_gt nox_gt ((se_lenSet B (SE.toBor (se_comp [("here", 6), ("there", 7)] rfl nd_bar_of (si_it (sq_val (se_var (i := 5) (hq := nq_pairs)))) (blkOk_by (N := N_bar_of) (sc := defScope st_bar_of) (own := [("here", 6), ("there", 7)]) (by decide +kernel)) (by decide) (by decide) (fun _ _ _ _ _ => sg_tup rfl (sgs_cons nd_bar_of (sgs_cons nd_bar_of sgs_nil))) (fun _ _ _ _ _ => sp_nil) (fun _ _ _ _ _ => (se_sub ((se_var (i := 7) (hq := nq_there))).valBor ((se_var (i := 6) (hq := nq_here))).valBor)))))).valBor (se_int).valBor)
  (sb_cons (ss_ret (se_llsT (so_cons (se_plainO se_str) (so_cons (se_plainO (se_var (i := 3) (hq := nq_size))) so_nil))))
  sb_nil)
  sb_nil)
  sb_nil))) (by first | decide | simp [Tg.is]))
  (sb_cons (ss_ret (se_plainL se_non))
  sb_nil))))
abbrev st_steps_by_size : Stmt := topS 29
abbrev N_steps_by_size : List Str := ["one", "other", "found", "size", "offset", "by"]
theorem sc_steps_by_size : FnScope N_steps_by_size ["one", "other"] (defScope st_steps_by_size) := ⟨rfl, rfl, rfl, by decide +kernel, rfl, by decide +kernel, by decide +kernel⟩
theorem nd_steps_by_size : N_steps_by_size.Nodup := sc_steps_by_size.nd
theorem ok_steps_by_size [md : Md] {P : Program} {w : World} {K : PySem.W.Frag} {mg : Str → Option Value} {base : Heap} {cl : Cl} {fa : Addr} {fd : FuncData} (B : Bl mg) (hK : cl.K = K) (F : Fun K "steps_by_size" "steps_by_size" st_steps_by_size fa fd) (gm : mg "steps_by_size" = some (.ref fa)) (bn : Binds K fd ["one", "other"] []) (F_offsets_of : Fi P w K mg base cl "offsets_of" 1 [false, false] (.own none) f_offsets_of) : Fi P w K mg base cl "steps_by_size" 2 [false, false] (.own none) f_steps_by_size := by
  refine def_ok (ls := [.own none, .val, .val, .val]) (m := m_steps_by_size) (ks' := []) F sc_steps_by_size gm bn rfl rfl rfl (.inr rfl) (fun cdv A outer s H E h0 s0 b0 hr => ?_)
  exact (sb_cons (ss_set (i := 2) nd_steps_by_size (se_lst (n := 1) (sa_v se_int sa_nil)))
  (sb_cons (ss_for (passes_of rfl) rfl (si_it (sq_val ((se_sortedSet B (SE.toBor (se_comp [("size", 3), ("offset", 4)] rfl nd_steps_by_size (si_it (sq_bor (se_varB (i := 0) (hq := nq_one)))) (blkOk_by (N := N_steps_by_size) (sc := defScope st_steps_by_size) (own := [("size", 3), ("offset", 4)]) (by decide +kernel)) (by decide) (by decide) (fun _ _ _ _ _ => sg_tup rfl (sgs_cons nd_steps_by_size (sgs_cons nd_steps_by_size sgs_nil))) (fun _ _ _ _ _ => sp_nil) (fun _ _ _ _ _ => (se_var (i := 3) (hq := nq_size))))))).toVal)) (sg_name nd_steps_by_size) (fun s => (sb_cons (ss_set (i := 5) nd_steps_by_size (se_sub ((se_ix ((se_call F_offsets_of (hr.mono (by decide)) (sa_b (se_varB (i := 1) (hq := nq_other)) (sa_b ((se_var (i := 3) (hq := nq_size))).valBor sa_nil)) nq_offsets_of)).toBor (se_int).valBor)).valBor ((se_ix ((se_call F_offsets_of (hr.mono (by decide)) (sa_b (se_varB (i := 0) (hq := nq_one)) (sa_b ((se_var (i := 3) (hq := nq_size))).valBor sa_nil)) nq_offsets_of)).toBor (se_int).valBor)).valBor))
  (sb_cons (ss_ext (i := 2) nd_steps_by_size ((se_mul ((se_lst (n := 1) (sa_v (se_var (i := 5) (hq := nq_by)) sa_nil))).toBor ((se_sub ((se_add ((se_var (i := 3) (hq := nq_size))).valBor (se_int).valBor)).toBor ((sf_Len B (sa_b (se_varB (i := 2) (hq := nq_found)) sa_nil))).valBor)).valBor)).toVal)
  sb_nil))) (by first | decide | simp [Tg.is]))
  (sb_cons (ss_ret (se_add (se_varB (i := 2) (hq := nq_found)) ((se_lst (n := 1) (sa_v (se_ix (se_varB (i := 2) (hq := nq_found)) ((se_neg (se_int).valBor)).valBor) sa_nil))).toBor))
  sb_nil)))
abbrev st_walks_by : Stmt := topS 30
abbrev N_walks_by : List Str := ["found", "made", "creel", "count"]
theorem sc_walks_by : FnScope N_walks_by ["found"] (defScope st_walks_by) := ⟨rfl, rfl, rfl, by decide +kernel, rfl, by decide +kernel, by decide +kernel⟩
theorem nd_walks_by : N_walks_by.Nodup := sc_walks_by.nd
theorem ok_walks_by [md : Md] {P : Program} {w : World} {K : PySem.W.Frag} {mg : Str → Option Value} {base : Heap} {cl : Cl} {fa : Addr} {fd : FuncData} (B : Bl mg) (hK : cl.K = K) (F : Fun K "walks_by" "walks_by" st_walks_by fa fd) (gm : mg "walks_by" = some (.ref fa)) (bn : Binds K fd ["found"] [])  : Fi P w K mg base cl "walks_by" 1 [false] (.own none) f_walks_by := by
  refine def_ok (ls := [.own none, .val, .val]) (m := m_walks_by) (ks' := []) F sc_walks_by gm bn rfl rfl rfl (.inr rfl) (fun cdv A outer s H E h0 s0 b0 hr => ?_)
  exact (sb_cons (ss_set (i := 1) nd_walks_by (se_lst (n := 0) sa_nil))
  (sb_cons (ss_for (passes_of rfl) rfl (si_range2 B.range (se_int).valBor ((se_sub ((sf_Len B (sa_b (se_varB (i := 0) (hq := nq_found)) sa_nil))).valBor (se_int).valBor)).valBor) (sg_name nd_walks_by) (fun s => (sb_cons (ss_set (i := 3) nd_walks_by (se_sub ((se_sub ((se_mul (se_int).valBor ((se_ix (se_varB (i := 0) (hq := nq_found)) ((se_var (i := 2) (hq := nq_creel))).valBor)).valBor)).toBor ((se_ix (se_varB (i := 0) (hq := nq_found)) ((se_sub ((se_var (i := 2) (hq := nq_creel))).valBor (se_int).valBor)).valBor)).valBor)).valBor ((se_ix (se_varB (i := 0) (hq := nq_found)) ((se_add ((se_var (i := 2) (hq := nq_creel))).valBor (se_int).valBor)).toBor)).valBor))
  (sb_cons (ss_if (st_cmp (op_neD hr.units) opv_ne nox_ne ((se_var (i := 3) (hq := nq_count))).valBor (se_int).valBor)
  (sb_cons (ss_append (i := 1) (hq := nq_made) (se_tup (n := 2) (sa_v (se_var (i := 2) (hq := nq_creel)) (sa_v (se_var (i := 3) (hq := nq_count)) sa_nil))))
  sb_nil)
  sb_nil)
  sb_nil))) (by first | decide | simp [Tg.is]))
  (sb_cons (ss_retV (i := 1) (hq := nq_made))
  sb_nil)))
abbrev st_kin : Stmt := topS 31
abbrev N_kin : List Str := ["one", "other", "first", "second", "bar"]
theorem sc_kin : FnScope N_kin ["one", "other"] (defScope st_kin) := ⟨rfl, rfl, rfl, by decide +kernel, rfl, by decide +kernel, by decide +kernel⟩
theorem nd_kin : N_kin.Nodup := sc_kin.nd
theorem ok_kin [md : Md] {P : Program} {w : World} {K : PySem.W.Frag} {mg : Str → Option Value} {base : Heap} {cl : Cl} {fa : Addr} {fd : FuncData} (B : Bl mg) (hK : cl.K = K) (F : Fun K "kin" "kin" st_kin fa fd) (gm : mg "kin" = some (.ref fa)) (bn : Binds K fd ["one", "other"] []) (F_look_row : Fi P w K mg base cl "look_row" 3 [false] .val f_look_row) (F_list_of : Fi P w K mg base cl "list_of" 5 [false] (.own none) f_list_of) (F_bar_of : Fi P w K mg base cl "bar_of" 2 [false, false] (.lls none (.own none)) f_bar_of) (F_steps_by_size : Fi P w K mg base cl "steps_by_size" 2 [false, false] (.own none) f_steps_by_size) (F_walks_by : Fi P w K mg base cl "walks_by" 1 [false] (.own none) f_walks_by) : Fi P w K mg base cl "kin" 6 [false, false] (.lls none (.own none)) f_kin := by
  refine def_okO (ls := [.val, .val, .lls none (.own none)]) (m := m_kin) (ks' := []) F sc_kin gm bn rfl rfl rfl (fun cdv A outer s H E h0 s0 b0 hr => ?_)
  exact (sb_cons (ss_expr (se_call F_look_row (hr.mono (by decide)) (sa_b (se_varB (i := 0) (hq := nq_one)) sa_nil) nq_look_row))
  (sb_cons (ss_expr (se_call F_look_row (hr.mono (by decide)) (sa_b (se_varB (i := 1) (hq := nq_other)) sa_nil) nq_look_row))
  (sb_cons (ss_set (i := 2) nd_kin ((se_call F_list_of (hr.mono (by decide)) (sa_b (se_varB (i := 0) (hq := nq_one)) sa_nil) nq_list_of)).toVal)
  (sb_cons (ss_set (i := 3) nd_kin ((se_call F_list_of (hr.mono (by decide)) (sa_b (se_varB (i := 1) (hq := nq_other)) sa_nil) nq_list_of)).toVal)
  (sb_cons (ss_set (i := 4) nd_kin (se_call F_bar_of (hr.mono (by decide)) (sa_b ((se_var (i := 2) (hq := nq_first))).valBor (sa_b ((se_var (i := 3) (hq := nq_second))).valBor sa_nil)) nq_bar_of))
  (sb_cons (ss_if (st_lend (i := 4) (k := .lls none (.own none)) (st_notN ((se_var (i := 4) (hq := nq_bar))).valBor))
  (sb_cons (ss_retV (i := 4) (hq := nq_bar))
  sb_nil)
  sb_nil)
  (sb_cons (ss_ret (se_llsT (so_cons (se_plainO se_str) (so_cons (se_call F_walks_by (hr.mono (by decide)) (sa_b ((se_call F_steps_by_size (hr.mono (by decide)) (sa_b ((se_var (i := 2) (hq := nq_first))).valBor (sa_b ((se_var (i := 3) (hq := nq_second))).valBor sa_nil)) nq_steps_by_size)).toBor sa_nil) nq_walks_by) so_nil))))
  sb_nil)))))))
abbrev st_numbers_L : Stmt := topS 33
abbrev N_numbers_L : List Str := ["_law_script", "_law_many", "_law_row_here", "_law_seed", "_law_cell", "_law_rest", "_law_k"]
theorem sc_numbers_L : FnScope N_numbers_L ["_law_script", "_law_many"] (defScope st_numbers_L) := ⟨rfl, rfl, rfl, by decide +kernel, rfl, by decide +kernel, by decide +kernel⟩
theorem nd_numbers_L : N_numbers_L.Nodup := sc_numbers_L.nd
theorem ok_numbers_L [md : Md] {P : Program} {w : World} {K : PySem.W.Frag} {mg : Str → Option Value} {base : Heap} {cl : Cl} {fa : Addr} {fd : FuncData} (B : Bl mg) (hK : cl.K = K) (F : Fun K "_law_numbers" "_law_numbers" st_numbers_L fa fd) (gm : mg "_law_numbers" = some (.ref fa)) (bn : Binds K fd ["_law_script", "_law_many"] [])  : Fi P w K mg base cl "_law_numbers" 1 [false, false] (.own none) f_numbers_L := by
  refine def_ok (ls := [.own none, .val, .val, .val, .val]) (m := m_numbers_L) (ks' := []) F sc_numbers_L gm bn rfl rfl rfl (.inr rfl) (fun cdv A outer s H E h0 s0 b0 hr => ?_)
  exact (sb_cons (ss_set (i := 2) nd_numbers_L (se_lst (n := 0) sa_nil))
  (sb_cons (ss_set (i := 3) nd_numbers_L se_int)
  (sb_cons (ss_for (passes_of rfl) rfl (si_it (sq_val ((se_slS hK (se_varB (i := 0) (hq := nq__law_script)) so_none (so_some (se_int).valBor))).toVal)) (sg_name nd_numbers_L) (fun s => (sb_cons (ss_set (i := 3) nd_numbers_L (se_mod ((se_add ((se_add ((se_mul ((se_var (i := 3) (hq := nq__law_seed))).valBor (se_int).valBor)).toBor ((se_mod ((se_var (i := 4) (hq := nq__law_cell))).valBor (se_int).valBor)).valBor)).toBor (se_int).valBor)).toBor (se_int).valBor))
  (sb_cons (ss_set (i := 5) nd_numbers_L (se_sub ((se_var (i := 4) (hq := nq__law_cell))).valBor ((se_pow (se_int).valBor (se_int).valBor)).valBor))
  (sb_cons (ss_if (st_cmp op_lt opv_lt nox_lt ((se_var (i := 5) (hq := nq__law_rest))).valBor (se_int).valBor)
  (sb_cons (ss_append (i := 2) (hq := nq__law_row_here) (se_mod ((se_var (i := 4) (hq := nq__law_cell))).valBor (se_int).valBor))
  sb_nil)
  sb_nil)
  (sb_cons (ss_for (passes_of rfl) rfl (si_range1 B.range (se_int).valBor) (sg_name nd_numbers_L) (fun s => (sb_cons (ss_if (st_cmp op_gt opv_gt nox_gt ((se_var (i := 5) (hq := nq__law_rest))).valBor (se_int).valBor)
  (sb_cons (ss_append (i := 2) (hq := nq__law_row_here) (se_mod ((se_var (i := 5) (hq := nq__law_rest))).valBor (se_int).valBor))
  (sb_cons (ss_set (i := 5) nd_numbers_L (se_fdiv ((se_var (i := 5) (hq := nq__law_rest))).valBor (se_int).valBor))
  sb_nil))
  sb_nil)
  sb_nil)) (by first | decide | simp [Tg.is]))
  sb_nil))))) (by first | decide | simp [Tg.is]))
  (sb_cons (ss_while WB (passes_of rfl) (st_cmp op_lt opv_lt nox_lt ((sf_Len B (sa_b (se_varB (i := 2) (hq := nq__law_row_here)) sa_nil))).valBor (se_varB (i := 1) (hq := nq__law_many)))
  (sb_cons (ss_set (i := 3) nd_numbers_L (se_mod ((se_add ((se_add ((se_add ((se_mul ((se_var (i := 3) (hq := nq__law_seed))).valBor ((se_var (i := 3) (hq := nq__law_seed))).valBor)).toBor ((se_mul (se_int).valBor ((se_var (i := 3) (hq := nq__law_seed))).valBor)).toBor)).toBor ((se_mul (se_int).valBor ((sf_Len B (sa_b (se_varB (i := 2) (hq := nq__law_row_here)) sa_nil))).valBor)).toBor)).toBor (se_int).valBor)).toBor (se_int).valBor))
  (sb_cons (ss_append (i := 2) (hq := nq__law_row_here) (se_mod ((se_fdiv ((se_var (i := 3) (hq := nq__law_seed))).valBor (se_int).valBor)).valBor (se_int).valBor))
  sb_nil)))
  (sb_cons (ss_ret (se_slL (se_varB (i := 2) (hq := nq__law_row_here)) so_none (so_some (se_varB (i := 1) (hq := nq__law_many)))))
  sb_nil)))))
abbrev st_same_L : Stmt := topS 34
abbrev N_same_L : List Str := ["_law_found", "_law_due", "_law_k"]
theorem sc_same_L : FnScope N_same_L ["_law_found", "_law_due"] (defScope st_same_L) := ⟨rfl, rfl, rfl, by decide +kernel, rfl, by decide +kernel, by decide +kernel⟩
theorem nd_same_L : N_same_L.Nodup := sc_same_L.nd
theorem ok_same_L [md : Md] {P : Program} {w : World} {K : PySem.W.Frag} {mg : Str → Option Value} {base : Heap} {cl : Cl} {fa : Addr} {fd : FuncData} (B : Bl mg) (hK : cl.K = K) (F : Fun K "_law_same" "_law_same" st_same_L fa fd) (gm : mg "_law_same" = some (.ref fa)) (bn : Binds K fd ["_law_found", "_law_due"] [])  : ∀ n, Fi P w K mg base cl "_law_same" n [false, false] .val (f_same_L n)
  | 0 => fi_stuck gm F.kp bn
  | n + 1 => by
    have Fs := ok_same_L (w := w) (P := P) (base := base) (cl := cl) B hK F gm bn  n
    refine def_ok (ls := [.val]) (m := m_same_L (f_same_L n)) (ks' := []) F sc_same_L gm bn rfl rfl rfl (.inl rfl) (fun cdv A outer s H E h0 s0 b0 hr => ?_)
    exact (sb_cons (ss_if (st_isN (se_varB (i := 1) (hq := nq__law_due)))
  (sb_cons (ss_ret (se_isN (se_varB (i := 0) (hq := nq__law_found))))
  sb_nil)
  sb_nil)
  (sb_cons (ss_if (st_val ((se_isiLT (se_varB (i := 1) (hq := nq__law_due)) B.isinstance B.list B.tuple)).valBor)
  (sb_cons (ss_if (st_of (sw_or (st_cmp (op_neD hr.units) opv_ne nox_ne ((si_list B (se_varB (i := 0) (hq := nq__law_found)))).valBor ((si_list B (se_varB (i := 1) (hq := nq__law_due)))).valBor) (sw_or1 (st_cmp (op_neD hr.units) opv_ne nox_ne ((si_tuple B (se_varB (i := 0) (hq := nq__law_found)))).valBor ((si_tuple B (se_varB (i := 1) (hq := nq__law_due)))).valBor))))
  (sb_cons (ss_ret se_bl)
  sb_nil)
  sb_nil)
  (sb_cons (ss_ret (se_and (se_cmp (op_eqD hr.units) opv_eq nox_eq ((sf_Len B (sa_b (se_varB (i := 0) (hq := nq__law_found)) sa_nil))).valBor ((sf_Len B (sa_b (se_varB (i := 1) (hq := nq__law_due)) sa_nil))).valBor) (se_one (sf_All B (sa_b (SE.toBor (se_comp [("_law_k", 2)] rfl nd_same_L (si_range1 B.range ((sf_Len B (sa_b (se_varB (i := 1) (hq := nq__law_due)) sa_nil))).valBor) (blkOk_by (N := N_same_L) (sc := defScope st_same_L) (own := [("_law_k", 2)]) (by decide +kernel)) (by decide) (by decide) (fun _ _ _ _ _ => sg_name nd_same_L) (fun _ _ _ _ _ => sp_nil) (fun _ _ _ _ _ => (se_call Fs (hr.mono (by omega)) (sa_b ((se_ix (se_varB (i := 0) (hq := nq__law_found)) ((se_var (i := 2) (hq := nq__law_k))).valBor)).valBor (sa_b ((se_ix (se_varB (i := 1) (hq := nq__law_due)) ((se_var (i := 2) (hq := nq__law_k))).valBor)).valBor sa_nil)) nq__law_same)))) sa_nil)))))
  sb_nil))
  sb_nil)
  (sb_cons (ss_if (st_of (sw_or (st_cmp (op_neD hr.units) opv_ne nox_ne ((si_bool B (se_varB (i := 0) (hq := nq__law_found)))).valBor ((si_bool B (se_varB (i := 1) (hq := nq__law_due)))).valBor) (sw_or1 (st_cmp (op_neD hr.units) opv_ne nox_ne ((si_str B (se_varB (i := 0) (hq := nq__law_found)))).valBor ((si_str B (se_varB (i := 1) (hq := nq__law_due)))).valBor))))
  (sb_cons (ss_ret se_bl)
  sb_nil)
  sb_nil)
  (sb_cons (ss_ret (se_and (se_cmp (op_eqD hr.units) opv_eq nox_eq ((si_int B (se_varB (i := 0) (hq := nq__law_found)))).valBor ((si_int B (se_varB (i := 1) (hq := nq__law_due)))).valBor) (se_one (se_cmp (op_eqD hr.units) opv_eq nox_eq (se_varB (i := 0) (hq := nq__law_found)) (se_varB (i := 1) (hq := nq__law_due))))))
  sb_nil))))
abbrev st_row_L : Stmt := topS 35
abbrev N_row_L : List Str := ["_law_d", "_law_most", "_law_place", "_law_row_here", "_law_k", "_law_step"]
theorem sc_row_L : FnScope N_row_L ["_law_d", "_law_most"] (defScope st_row_L) := ⟨rfl, rfl, rfl, by decide +kernel, rfl, by decide +kernel, by decide +kernel⟩
theorem nd_row_L : N_row_L.Nodup := sc_row_L.nd
theorem ok_row_L [md : Md] {P : Program} {w : World} {K : PySem.W.Frag} {mg : Str → Option Value} {base : Heap} {cl : Cl} {fa : Addr} {fd : FuncData} (B : Bl mg) (hK : cl.K = K) (F : Fun K "_law_row" "_law_row" st_row_L fa fd) (gm : mg "_law_row" = some (.ref fa)) (bn : Binds K fd ["_law_d", "_law_most"] [])  : Fi P w K mg base cl "_law_row" 1 [false, false] (.own none) f_row_L := by
  refine def_ok (ls := [.val, .own none, .val, .val]) (m := m_row_L) (ks' := []) F sc_row_L gm bn rfl rfl rfl (.inr rfl) (fun cdv A outer s H E h0 s0 b0 hr => ?_)
  exact (sb_cons (ss_set (i := 2) nd_row_L (se_sub ((se_mod ((se_ix (se_varB (i := 0) (hq := nq__law_d)) (se_int).valBor)).valBor (se_int).valBor)).valBor (se_int).valBor))
  (sb_cons (ss_set (i := 3) nd_row_L (se_lst (n := 0) sa_nil))
  (sb_cons (ss_for (passes_of rfl) rfl (si_range1 B.range ((se_mod ((se_ix (se_varB (i := 0) (hq := nq__law_d)) (se_int).valBor)).valBor ((se_add (se_varB (i := 1) (hq := nq__law_most)) (se_int).valBor)).toBor)).valBor) (sg_name nd_row_L) (fun s => (sb_cons (ss_set (i := 5) nd_row_L (se_ix (se_varB (i := 0) (hq := nq__law_d)) ((se_add (se_int).valBor ((se_var (i := 4) (hq := nq__law_k))).valBor)).toBor))
  (sb_cons (ss_set (i := 2) nd_row_L ((se_add ((se_add ((se_var (i := 2) (hq := nq__law_place))).valBor (se_int).valBor)).toBor ((se_if (st_cmp (op_eqD hr.units) opv_eq nox_eq ((se_mod ((se_var (i := 5) (hq := nq__law_step))).valBor (se_int).valBor)).valBor (se_int).valBor) se_int (se_mod ((se_fdiv ((se_var (i := 5) (hq := nq__law_step))).valBor (se_int).valBor)).valBor ((se_ix ((se_lst (n := 4) (sa_v se_int (sa_v se_int (sa_v se_int (sa_v se_int sa_nil)))))).toBor ((se_mod ((se_ix (se_varB (i := 0) (hq := nq__law_d)) (se_int).valBor)).valBor (se_int).valBor)).valBor)).valBor))).valBor)).toVal)
  (sb_cons (ss_append (i := 3) (hq := nq__law_row_here) (se_var (i := 2) (hq := nq__law_place)))
  sb_nil)))) (by first | decide | simp [Tg.is]))
  (sb_cons (ss_retV (i := 3) (hq := nq__law_row_here))
  sb_nil))))
abbrev st_long_row_L : Stmt := topS 36
abbrev N_long_row_L : List Str := ["_law_d", "_law_most", "_law_row_here", "_law_cut", "_law_by", "_law_place"]
theorem sc_long_row_L : FnScope N_long_row_L ["_law_d", "_law_most"] (defScope st_long_row_L) := ⟨rfl, rfl, rfl, by decide +kernel, rfl, by decide +kernel, by decide +kernel⟩
theorem nd_long_row_L : N_long_row_L.Nodup := sc_long_row_L.nd
theorem ok_long_row_L [md : Md] {P : Program} {w : World} {K : PySem.W.Frag} {mg : Str → Option Value} {base : Heap} {cl : Cl} {fa : Addr} {fd : FuncData} (B : Bl mg) (hK : cl.K = K) (F : Fun K "_law_long_row" "_law_long_row" st_long_row_L fa fd) (gm : mg "_law_long_row" = some (.ref fa)) (bn : Binds K fd ["_law_d", "_law_most"] []) (F_row_L : Fi P w K mg base cl "_law_row" 1 [false, false] (.own none) f_row_L) : Fi P w K mg base cl "_law_long_row" 2 [false, false] (.own none) f_long_row_L := by
  refine def_ok (ls := [.val, .val, .val, .val]) (m := m_long_row_L) (ks' := []) F sc_long_row_L gm bn rfl rfl rfl (.inr rfl) (fun cdv A outer s H E h0 s0 b0 hr => ?_)
  exact (sb_cons (ss_set (i := 2) nd_long_row_L ((se_call F_row_L (hr.mono (by decide)) (sa_b (se_varB (i := 0) (hq := nq__law_d)) (sa_b (se_varB (i := 1) (hq := nq__law_most)) sa_nil)) nq__law_row)).toVal)
  (sb_cons (ss_set (i := 3) nd_long_row_L (se_mod ((se_fdiv ((se_ix (se_varB (i := 0) (hq := nq__law_d)) (se_int).valBor)).valBor (se_int).valBor)).valBor ((se_add ((sf_Len B (sa_b ((se_var (i := 2) (hq := nq__law_row_here))).valBor sa_nil))).valBor (se_int).valBor)).toBor))
  (sb_cons (ss_set (i := 4) nd_long_row_L (se_ix ((se_lst (n := 4) (sa_v se_int (sa_v (se_pow (se_int).valBor (se_int).valBor) (sa_v (se_pow (se_int).valBor (se_int).valBor) (sa_v (se_pow (se_int).valBor (se_int).valBor) sa_nil)))))).toBor ((se_mod ((se_fdiv ((se_ix (se_varB (i := 0) (hq := nq__law_d)) (se_int).valBor)).valBor (se_int).valBor)).valBor (se_int).valBor)).valBor))
  (sb_cons (ss_ret (se_add ((se_slL ((se_var (i := 2) (hq := nq__law_row_here))).valBor so_none (so_some ((se_var (i := 3) (hq := nq__law_cut))).valBor))).toBor (SE.toBor (se_comp [("_law_place", 5)] rfl nd_long_row_L (si_it (sq_val ((se_slL ((se_var (i := 2) (hq := nq__law_row_here))).valBor (so_some ((se_var (i := 3) (hq := nq__law_cut))).valBor) so_none)).toVal)) (blkOk_by (N := N_long_row_L) (sc := defScope st_long_row_L) (own := [("_law_place", 5)]) (by decide +kernel)) (by decide) (by decide) (fun _ _ _ _ _ => sg_name nd_long_row_L) (fun _ _ _ _ _ => sp_nil) (fun _ _ _ _ _ => ((se_add ((se_var (i := 5) (hq := nq__law_place))).valBor ((se_var (i := 4) (hq := nq__law_by))).valBor)).toVal)))))
  sb_nil))))
abbrev st_lesser_L : Stmt := topS 37
abbrev N_lesser_L : List Str := ["_law_found", "_law_size", "_law_own", "_law_offset"]
theorem sc_lesser_L : FnScope N_lesser_L ["_law_found", "_law_size"] (defScope st_lesser_L) := ⟨rfl, rfl, rfl, by decide +kernel, rfl, by decide +kernel, by decide +kernel⟩
theorem nd_lesser_L : N_lesser_L.Nodup := sc_lesser_L.nd
theorem ok_lesser_L [md : Md] {P : Program} {w : World} {K : PySem.W.Frag} {mg : Str → Option Value} {base : Heap} {cl : Cl} {fa : Addr} {fd : FuncData} (B : Bl mg) (hK : cl.K = K) (F : Fun K "_law_lesser" "_law_lesser" st_lesser_L fa fd) (gm : mg "_law_lesser" = some (.ref fa)) (bn : Binds K fd ["_law_found", "_law_size"] [])  : Fi P w K mg base cl "_law_lesser" 1 [false, false] .val f_lesser_L := by
  refine def_ok (ls := [.val, .val]) (m := m_lesser_L) (ks' := []) F sc_lesser_L gm bn rfl rfl rfl (.inl rfl) (fun cdv A outer s H E h0 s0 b0 hr => ?_)
  exact (sb_cons (ss_ret (sf_Sum B (sa_b (SE.toBor (se_comp [("_law_own", 2), ("_law_offset", 3)] rfl nd_lesser_L (si_it (sq_bor (se_varB (i := 0) (hq := nq__law_found)))) (blkOk_by (N := N_lesser_L) (sc := defScope st_lesser_L) (own := [("_law_own", 2), ("_law_offset", 3)]) (by decide +kernel)) (by decide) (by decide) (fun _ _ _ _ _ => sg_tup rfl (sgs_cons nd_lesser_L (sgs_cons nd_lesser_L sgs_nil))) (fun _ _ _ _ _ => sp_nil) (fun _ _ _ _ _ => (sf_Min2 B (sa_b (se_varB (i := 1) (hq := nq__law_size)) (sa_b ((se_var (i := 2) (hq := nq__law_own))).valBor sa_nil)))))) sa_nil)))
  sb_nil)
abbrev st_list_L : Stmt := topS 38
abbrev N_list_L : List Str := ["_law_row_here", "_law_found", "_law_place", "_law_ripe", "_law_size", "_law_offset"]
theorem sc_list_L : FnScope N_list_L ["_law_row_here"] (defScope st_list_L) := ⟨rfl, rfl, rfl, by decide +kernel, rfl, by decide +kernel, by decide +kernel⟩
theorem nd_list_L : N_list_L.Nodup := sc_list_L.nd
theorem ok_list_L [md : Md] {P : Program} {w : World} {K : PySem.W.Frag} {mg : Str → Option Value} {base : Heap} {cl : Cl} {fa : Addr} {fd : FuncData} (B : Bl mg) (hK : cl.K = K) (F : Fun K "_law_list" "_law_list" st_list_L fa fd) (gm : mg "_law_list" = some (.ref fa)) (bn : Binds K fd ["_law_row_here"] []) (F_lesser_L : Fi P w K mg base cl "_law_lesser" 1 [false, false] .val f_lesser_L) : Fi P w K mg base cl "_law_list" 2 [false] (.own none) f_list_L := by
  refine def_ok (ls := [.own none, .val, .val, .val, .val]) (m := m_list_L) (ks' := []) F sc_list_L gm bn rfl rfl rfl (.inr rfl) (fun cdv A outer s H E h0 s0 b0 hr => ?_)
  exact (sb_cons (ss_set (i := 1) nd_list_L (se_lst (n := 0) sa_nil))
  (sb_cons (ss_for (passes_of rfl) rfl (si_it (sq_par (i := 0) (hq := nq__law_row_here))) (sg_name nd_list_L) (fun s => (sb_cons (ss_frzB (i := 3) (ss_setLc (i := 3) [("_law_size", 4), ("_law_offset", 5)] rfl nd_list_L (si_it (sq_bor (se_varB (i := 1) (hq := nq__law_found)))) (blkOk_by (N := N_list_L) (sc := defScope st_list_L) (own := [("_law_size", 4), ("_law_offset", 5)]) (by decide +kernel)) (by decide) (by decide) (fun _ _ _ _ _ => sg_tup rfl (sgs_cons nd_list_L (sgs_cons nd_list_L sgs_nil))) (fun _ _ _ _ _ => (sp_one (st_cmp (op_eqD hr.units) opv_eq nox_eq ((se_var (i := 5) (hq := nq__law_offset))).valBor ((se_sub ((se_sub ((se_var (i := 2) (hq := nq__law_place))).valBor (se_int).valBor)).valBor ((se_mul (se_int).valBor ((se_call F_lesser_L (hr.mono (by decide)) (sa_b (se_varB (i := 1) (hq := nq__law_found)) (sa_b ((se_var (i := 4) (hq := nq__law_size))).valBor sa_nil)) nq__law_lesser)).valBor)).toBor)).valBor))) (fun _ _ _ _ _ => (se_var (i := 4) (hq := nq__law_size))) (sw_true rfl rfl rfl (by decide +kernel))))
  (sb_cons (ss_set (i := 4) nd_list_L (se_maxD B ((se_var (i := 3) (hq := nq__law_ripe))).valBor se_int))
  (sb_cons (ss_if (st_cmp op_gt opv_gt nox_gt ((se_var (i := 4) (hq := nq__law_size))).valBor (se_int).valBor)
  (sb_cons (ss_remove hr.units65 (i := 1) (hq := nq__law_found) (se_tup (n := 2) (sa_v (se_var (i := 4) (hq := nq__law_size)) (sa_v (se_sub ((se_sub ((se_var (i := 2) (hq := nq__law_place))).valBor (se_int).valBor)).valBor ((se_mul (se_int).valBor ((se_call F_lesser_L (hr.mono (by decide)) (sa_b (se_varB (i := 1) (hq := nq__law_found)) (sa_b ((se_var (i := 4) (hq := nq__law_size))).valBor sa_nil)) nq__law_lesser)).valBor)).toBor) sa_nil))))
  sb_nil)
  sb_nil)
  (sb_cons (ss_append (i := 1) (hq := nq__law_found) (se_tup (n := 2) (sa_v ((se_add ((se_var (i := 4) (hq := nq__law_size))).valBor (se_int).valBor)).toVal (sa_v se_int sa_nil))))
  (sb_cons (ss_setI (i := 1) (hq := nq__law_found) ((se_neg (se_int).valBor)).valBor (se_tup (n := 2) (sa_v ((se_add ((se_var (i := 4) (hq := nq__law_size))).valBor (se_int).valBor)).toVal (sa_v (se_sub ((se_var (i := 2) (hq := nq__law_place))).valBor ((se_mul (se_int).valBor ((se_call F_lesser_L (hr.mono (by decide)) (sa_b (se_varB (i := 1) (hq := nq__law_found)) (sa_b ((se_add ((se_var (i := 4) (hq := nq__law_size))).valBor (se_int).valBor)).toBor sa_nil)) nq__law_lesser)).valBor)).toBor) sa_nil))))
  sb_nil)))))) (by first | decide | simp [Tg.is]))
  (sb_cons (ss_ret (sf_Sorted B (sa_b (se_varB (i := 1) (hq := nq__law_found)) sa_nil)))
  sb_nil)))
abbrev st_stones_L : Stmt := topS 39
abbrev N_stones_L : List Str := ["_law_pairs", "_law_left", "_law_row_here", "_law_place", "_law_size", "_law_offset", "_law_own"]
theorem sc_stones_L : FnScope N_stones_L ["_law_pairs"] (defScope st_stones_L) := ⟨rfl, rfl, rfl, by decide +kernel, rfl, by decide +kernel, by decide +kernel⟩
theorem nd_stones_L : N_stones_L.Nodup := sc_stones_L.nd
theorem ok_stones_L [md : Md] {P : Program} {w : World} {K : PySem.W.Frag} {mg : Str → Option Value} {base : Heap} {cl : Cl} {fa : Addr} {fd : FuncData} (B : Bl mg) (hK : cl.K = K) (F : Fun K "_law_stones" "_law_stones" st_stones_L fa fd) (gm : mg "_law_stones" = some (.ref fa)) (bn : Binds K fd ["_law_pairs"] []) (F_lesser_L : Fi P w K mg base cl "_law_lesser" 1 [false, false] .val f_lesser_L) : Fi P w K mg base cl "_law_stones" 2 [false] (.own none) f_stones_L := by
  refine def_ok (ls := [.own none, .own none, .val, .val, .val, .val]) (m := m_stones_L) (ks' := []) F sc_stones_L gm bn rfl rfl rfl (.inr rfl) (fun cdv A outer s H E h0 s0 b0 hr => ?_)
  exact (sb_cons (ss_set (i := 1) nd_stones_L (sf_List B (sa_b (se_varB (i := 0) (hq := nq__law_pairs)) sa_nil)))
  (sb_cons (ss_set (i := 2) nd_stones_L (se_lst (n := 0) sa_nil))
  (sb_cons (ss_while WB (passes_of rfl) (st_cmp (op_neD hr.units) opv_ne nox_ne (se_varB (i := 1) (hq := nq__law_left)) ((se_lst (n := 0) sa_nil)).toBor)
  (sb_cons (ss_set (i := 3) nd_stones_L (sf_Max1 B (sa_b (SE.toBor (se_comp [("_law_size", 4), ("_law_offset", 5)] rfl nd_stones_L (si_it (sq_bor (se_varB (i := 1) (hq := nq__law_left)))) (blkOk_by (N := N_stones_L) (sc := defScope st_stones_L) (own := [("_law_size", 4), ("_law_offset", 5)]) (by decide +kernel)) (by decide) (by decide) (fun _ _ _ _ _ => sg_tup rfl (sgs_cons nd_stones_L (sgs_cons nd_stones_L sgs_nil))) (fun _ _ _ _ _ => sp_nil) (fun _ _ _ _ _ => ((se_add ((se_var (i := 5) (hq := nq__law_offset))).valBor ((se_mul (se_int).valBor ((se_call F_lesser_L (hr.mono (by decide)) (sa_b (se_varB (i := 1) (hq := nq__law_left)) (sa_b ((se_var (i := 4) (hq := nq__law_size))).valBor sa_nil)) nq__law_lesser)).valBor)).toBor)).toVal))) sa_nil)))
  (sb_cons (ss_set (i := 4) nd_stones_L (sf_Min1 B (sa_b (SE.toBor (se_comp [("_law_own", 6), ("_law_offset", 5)] rfl nd_stones_L (si_it (sq_bor (se_varB (i := 1) (hq := nq__law_left)))) (blkOk_by (N := N_stones_L) (sc := defScope st_stones_L) (own := [("_law_own", 6), ("_law_offset", 5)]) (by decide +kernel)) (by decide) (by decide) (fun _ _ _ _ _ => sg_tup rfl (sgs_cons nd_stones_L (sgs_cons nd_stones_L sgs_nil))) (fun _ _ _ _ _ => (sp_one (st_cmp (op_eqD hr.units) opv_eq nox_eq ((se_add ((se_var (i := 5) (hq := nq__law_offset))).valBor ((se_mul (se_int).valBor ((se_call F_lesser_L (hr.mono (by decide)) (sa_b (se_varB (i := 1) (hq := nq__law_left)) (sa_b ((se_var (i := 6) (hq := nq__law_own))).valBor sa_nil)) nq__law_lesser)).valBor)).toBor)).toBor ((se_var (i := 3) (hq := nq__law_place))).valBor))) (fun _ _ _ _ _ => (se_var (i := 6) (hq := nq__law_own))))) sa_nil)))
  (sb_cons (ss_remove hr.units65 (i := 1) (hq := nq__law_left) (se_tup (n := 2) (sa_v (se_var (i := 4) (hq := nq__law_size)) (sa_v (se_sub ((se_var (i := 3) (hq := nq__law_place))).valBor ((se_mul (se_int).valBor ((se_call F_lesser_L (hr.mono (by decide)) (sa_b (se_varB (i := 1) (hq := nq__law_left)) (sa_b ((se_var (i := 4) (hq := nq__law_size))).valBor sa_nil)) nq__law_lesser)).valBor)).toBor) sa_nil))))
  (sb_cons (ss_if (st_cmp op_gt opv_gt nox_gt ((se_var (i := 4) (hq := nq__law_size))).valBor (se_int).valBor)
  (sb_cons (ss_append (i := 1) (hq := nq__law_left) (se_tup (n := 2) (sa_v (se_sub ((se_var (i := 4) (hq := nq__law_size))).valBor (se_int).valBor) (sa_v se_int sa_nil))))
  (sb_cons (ss_setI (i := 1) (hq := nq__law_left) ((se_neg (se_int).valBor)).valBor (se_tup (n := 2) (sa_v (se_sub ((se_var (i := 4) (hq := nq__law_size))).valBor (se_int).valBor) (sa_v (se_sub ((se_sub ((se_var (i := 3) (hq := nq__law_place))).valBor (se_int).valBor)).valBor ((se_mul (se_int).valBor ((se_call F_lesser_L (hr.mono (by decide)) (sa_b (se_varB (i := 1) (hq := nq__law_left)) (sa_b ((se_sub ((se_var (i := 4) (hq := nq__law_size))).valBor (se_int).valBor)).valBor sa_nil)) nq__law_lesser)).valBor)).toBor) sa_nil))))
  sb_nil))
  sb_nil)
  (sb_cons (ss_append (i := 2) (hq := nq__law_row_here) (se_var (i := 3) (hq := nq__law_place)))
  sb_nil))))))
  (sb_cons (ss_ret (se_revL (se_varB (i := 2) (hq := nq__law_row_here))))
  sb_nil))))
abbrev st_walks_L : Stmt := topS 40
abbrev N_walks_L : List Str := ["_law_d", "_law_many", "_law_found", "_law_k", "_law_creel"]
theorem sc_walks_L : FnScope N_walks_L ["_law_d", "_law_many"] (defScope st_walks_L) := ⟨rfl, rfl, rfl, by decide +kernel, rfl, by decide +kernel, by decide +kernel⟩
theorem nd_walks_L : N_walks_L.Nodup := sc_walks_L.nd
theorem ok_walks_L [md : Md] {P : Program} {w : World} {K : PySem.W.Frag} {mg : Str → Option Value} {base : Heap} {cl : Cl} {fa : Addr} {fd : FuncData} (B : Bl mg) (hK : cl.K = K) (F : Fun K "_law_walks" "_law_walks" st_walks_L fa fd) (gm : mg "_law_walks" = some (.ref fa)) (bn : Binds K fd ["_law_d", "_law_many"] [])  : Fi P w K mg base cl "_law_walks" 1 [false, false] (.own none) f_walks_L := by
  refine def_ok (ls := [.own none, .val, .val]) (m := m_walks_L) (ks' := []) F sc_walks_L gm bn rfl rfl rfl (.inr rfl) (fun cdv A outer s H E h0 s0 b0 hr => ?_)
  exact (sb_cons (ss_set (i := 2) nd_walks_L (se_lst (n := 0) sa_nil))
  (sb_cons (ss_for (passes_of rfl) rfl (si_range1 B.range ((se_mod ((se_ix (se_varB (i := 0) (hq := nq__law_d)) (se_int).valBor)).valBor ((se_add (se_varB (i := 1) (hq := nq__law_many)) (se_int).valBor)).toBor)).valBor) (sg_name nd_walks_L) (fun s => (sb_cons (ss_set (i := 4) nd_walks_L ((se_add (se_int).valBor ((se_mod ((se_ix (se_varB (i := 0) (hq := nq__law_d)) ((se_add (se_int).valBor ((se_mul (se_int).valBor ((se_var (i := 3) (hq := nq__law_k))).valBor)).toBor)).toBor)).valBor ((se_ix ((se_lst (n := 3) (sa_v se_int (sa_v se_int (sa_v se_int sa_nil))))).toBor ((se_mod ((se_fdiv ((se_ix (se_varB (i := 0) (hq := nq__law_d)) (se_int).valBor)).valBor (se_int).valBor)).valBor (se_int).valBor)).valBor)).valBor)).valBor)).toVal)
  (sb_cons (ss_if (st_cmp (op_eqD hr.units) opv_eq nox_eq ((se_mod ((se_ix (se_varB (i := 0) (hq := nq__law_d)) ((se_add (se_int).valBor ((se_mul (se_int).valBor ((se_var (i := 3) (hq := nq__law_k))).valBor)).toBor)).toBor)).valBor (se_int).valBor)).valBor (se_int).valBor)
  (sb_cons (ss_set (i := 4) nd_walks_L (se_pow (se_int).valBor (se_int).valBor))
  sb_nil)
  sb_nil)
  (sb_cons (ss_append (i := 2) (hq := nq__law_found) (se_tup (n := 2) (sa_v (se_var (i := 4) (hq := nq__law_creel)) (sa_v (se_sub ((se_mod ((se_ix (se_varB (i := 0) (hq := nq__law_d)) ((se_add (se_int).valBor ((se_mul (se_int).valBor ((se_var (i := 3) (hq := nq__law_k))).valBor)).toBor)).toBor)).valBor (se_int).valBor)).valBor (se_int).valBor) sa_nil))))
  sb_nil)))) (by first | decide | simp [Tg.is]))
  (sb_cons (ss_retV (i := 2) (hq := nq__law_found))
  sb_nil)))
abbrev st_adds_L : Stmt := topS 41
abbrev N_adds_L : List Str := ["_law_pairs", "_law_walks_here", "_law_found", "_law_size", "_law_offset", "_law_creel", "_law_count"]
theorem sc_adds_L : FnScope N_adds_L ["_law_pairs", "_law_walks_here"] (defScope st_adds_L) := ⟨rfl, rfl, rfl, by decide +kernel, rfl, by decide +kernel, by decide +kernel⟩
theorem nd_adds_L : N_adds_L.Nodup := sc_adds_L.nd
theorem ok_adds_L [md : Md] {P : Program} {w : World} {K : PySem.W.Frag} {mg : Str → Option Value} {base : Heap} {cl : Cl} {fa : Addr} {fd : FuncData} (B : Bl mg) (hK : cl.K = K) (F : Fun K "_law_adds" "_law_adds" st_adds_L fa fd) (gm : mg "_law_adds" = some (.ref fa)) (bn : Binds K fd ["_law_pairs", "_law_walks_here"] [])  : Fi P w K mg base cl "_law_adds" 1 [false, false] (.own none) f_adds_L := by
  refine def_ok (ls := [.own none, .val, .val, .val, .val]) (m := m_adds_L) (ks' := []) F sc_adds_L gm bn rfl rfl rfl (.inr rfl) (fun cdv A outer s H E h0 s0 b0 hr => ?_)
  exact (sb_cons (ss_set (i := 2) nd_adds_L (se_lst (n := 0) sa_nil))
  (sb_cons (ss_for (passes_of rfl) rfl (si_it (sq_par (i := 0) (hq := nq__law_pairs))) (sg_tup rfl (sgs_cons nd_adds_L (sgs_cons nd_adds_L sgs_nil))) (fun s => (sb_cons (ss_append (i := 2) (hq := nq__law_found) (se_tup (n := 2) (sa_v (se_var (i := 3) (hq := nq__law_size)) (sa_v ((se_add ((se_var (i := 4) (hq := nq__law_offset))).valBor ((sf_Sum B (sa_b (SE.toBor (se_comp [("_law_creel", 5), ("_law_count", 6)] rfl nd_adds_L (si_it (sq_bor (se_varB (i := 1) (hq := nq__law_walks_here)))) (blkOk_by (N := N_adds_L) (sc := defScope st_adds_L) (own := [("_law_creel", 5), ("_law_count", 6)]) (by decide +kernel)) (by decide) (by decide) (fun _ _ _ _ _ => sg_tup rfl (sgs_cons nd_adds_L (sgs_cons nd_adds_L sgs_nil))) (fun _ _ _ _ _ => sp_nil) (fun _ _ _ _ _ => ((se_mul ((se_var (i := 6) (hq := nq__law_count))).valBor ((sf_Min2 B (sa_b ((se_var (i := 5) (hq := nq__law_creel))).valBor (sa_b ((se_var (i := 3) (hq := nq__law_size))).valBor sa_nil)))).valBor)).toVal))) sa_nil))).valBor)).toVal sa_nil))))
  sb_nil)) (by first | decide | simp [Tg.is]))
  (sb_cons (ss_ret (sf_Sorted B (sa_b (se_varB (i := 2) (hq := nq__law_found)) sa_nil)))
  sb_nil)))
abbrev st_ten_L : Stmt := topS 42
abbrev N_ten_L : List Str := ["_law_many", "_law_found", "_law_step"]
theorem sc_ten_L : FnScope N_ten_L ["_law_many"] (defScope st_ten_L) := ⟨rfl, rfl, rfl, by decide +kernel, rfl, by decide +kernel, by decide +kernel⟩
theorem nd_ten_L : N_ten_L.Nodup := sc_ten_L.nd
theorem ok_ten_L [md : Md] {P : Program} {w : World} {K : PySem.W.Frag} {mg : Str → Option Value} {base : Heap} {cl : Cl} {fa : Addr} {fd : FuncData} (B : Bl mg) (hK : cl.K = K) (F : Fun K "_law_ten" "_law_ten" st_ten_L fa fd) (gm : mg "_law_ten" = some (.ref fa)) (bn : Binds K fd ["_law_many"] [])  : Fi P w K mg base cl "_law_ten" 1 [false] .val f_ten_L := by
  refine def_ok (ls := [.val, .val]) (m := m_ten_L) (ks' := []) F sc_ten_L gm bn rfl rfl rfl (.inl rfl) (fun cdv A outer s H E h0 s0 b0 hr => ?_)
  exact (sb_cons (ss_set (i := 1) nd_ten_L se_int)
  (sb_cons (ss_for (passes_of rfl) rfl (si_range1 B.range (se_varB (i := 0) (hq := nq__law_many))) (sg_name nd_ten_L) (fun s => (sb_cons (ss_set (i := 1) nd_ten_L ((se_mul ((se_var (i := 1) (hq := nq__law_found))).valBor (se_int).valBor)).toVal)
  sb_nil)) (by first | decide | simp [Tg.is]))
  (sb_cons (ss_ret (se_var (i := 1) (hq := nq__law_found)))
  sb_nil)))
abbrev st_offsets_L : Stmt := topS 43
abbrev N_offsets_L : List Str := ["_law_pairs", "_law_size", "_law_own", "_law_offset"]
theorem sc_offsets_L : FnScope N_offsets_L ["_law_pairs", "_law_size"] (defScope st_offsets_L) := ⟨rfl, rfl, rfl, by decide +kernel, rfl, by decide +kernel, by decide +kernel⟩
theorem nd_offsets_L : N_offsets_L.Nodup := sc_offsets_L.nd
theorem ok_offsets_L [md : Md] {P : Program} {w : World} {K : PySem.W.Frag} {mg : Str → Option Value} {base : Heap} {cl : Cl} {fa : Addr} {fd : FuncData} (B : Bl mg) (hK : cl.K = K) (F : Fun K "_law_offsets" "_law_offsets" st_offsets_L fa fd) (gm : mg "_law_offsets" = some (.ref fa)) (bn : Binds K fd ["_law_pairs", "_law_size"] [])  : Fi P w K mg base cl "_law_offsets" 1 [false, false] (.own none) f_offsets_L := by
  refine def_ok (ls := [.val, .val]) (m := m_offsets_L) (ks' := []) F sc_offsets_L gm bn rfl rfl rfl (.inr rfl) (fun cdv A outer s H E h0 s0 b0 hr => ?_)
  exact (sb_cons (ss_ret (se_comp [("_law_own", 2), ("_law_offset", 3)] rfl nd_offsets_L (si_it (sq_bor (se_varB (i := 0) (hq := nq__law_pairs)))) (blkOk_by (N := N_offsets_L) (sc := defScope st_offsets_L) (own := [("_law_own", 2), ("_law_offset", 3)]) (by decide +kernel)) (by decide) (by decide) (fun _ _ _ _ _ => sg_tup rfl (sgs_cons nd_offsets_L (sgs_cons nd_offsets_L sgs_nil))) (fun _ _ _ _ _ => (sp_one (st_cmp (op_eqD hr.units) opv_eq nox_eq ((se_var (i := 2) (hq := nq__law_own))).valBor (se_varB (i := 1) (hq := nq__law_size))))) (fun _ _ _ _ _ => (se_var (i := 3) (hq := nq__law_offset)))))
  sb_nil)
abbrev st_bars_L : Stmt := topS 44
abbrev N_bars_L : List Str := ["_law_one", "_law_other", "_law_bars_here", "_law_sizes", "_law_size", "_law_offset", "_law_pairs", "_law_here", "_law_there"]
theorem sc_bars_L : FnScope N_bars_L ["_law_one", "_law_other"] (defScope st_bars_L) := ⟨rfl, rfl, rfl, by decide +kernel, rfl, by decide +kernel, by decide +kernel⟩
theorem nd_bars_L : N_bars_L.Nodup := sc_bars_L.nd
theorem ok_bars_L [md : Md] {P : Program} {w : World} {K : PySem.W.Frag} {mg : Str → Option Value} {base : Heap} {cl : Cl} {fa : Addr} {fd : FuncData} (B : Bl mg) (hK : cl.K = K) (F : Fun K "_law_bars" "_law_bars" st_bars_L fa fd) (gm : mg "_law_bars" = some (.ref fa)) (bn : Binds K fd ["_law_one", "_law_other"] []) (F_offsets_L : Fi P w K mg base cl "_law_offsets" 1 [false, false] (.own none) f_offsets_L) : Fi P w K mg base cl "_law_bars" 2 [false, false] (.own none) f_bars_L := by
  refine def_ok (ls := [.own none, .val, .val, .val, .val, .val, .val]) (m := m_bars_L) (ks' := []) F sc_bars_L gm bn rfl rfl rfl (.inr rfl) (fun cdv A outer s H E h0 s0 b0 hr => ?_)
  exact (sb_cons (ss_set (i := 2) nd_bars_L (se_lst (n := 0) sa_nil))
  (sb_cons (ss_set (i := 3) nd_bars_L ((se_sortedSet B (SE.toBor (se_comp [("_law_size", 4), ("_law_offset", 5)] rfl nd_bars_L (si_it (sq_val ((se_add (se_varB (i := 0) (hq := nq__law_one)) (se_varB (i := 1) (hq := nq__law_other)))).toVal)) (blkOk_by (N := N_bars_L) (sc := defScope st_bars_L) (own := [("_law_size", 4), ("_law_offset", 5)]) (by decide +kernel)) (by decide) (by decide) (fun _ _ _ _ _ => sg_tup rfl (sgs_cons nd_bars_L (sgs_cons nd_bars_L sgs_nil))) (fun _ _ _ _ _ => sp_nil) (fun _ _ _ _ _ => (se_var (i := 4) (hq := nq__law_size))))))).toVal)
  (sb_cons (ss_for (passes_of rfl) rfl (si_it (sq_val (se_var (i := 3) (hq := nq__law_sizes)))) (sg_name nd_bars_L) (fun s => (sb_cons (ss_if (st_cmp (op_neD hr.units) opv_ne nox_ne ((sf_Len B (sa_b ((se_call F_offsets_L (hr.mono (by decide)) (sa_b (se_varB (i := 0) (hq := nq__law_one)) (sa_b ((se_var (i := 4) (hq := nq__law_size))).valBor sa_nil)) nq__law_offsets)).toBor sa_nil))).valBor ((sf_Len B (sa_b ((se_call F_offsets_L (hr.mono (by decide)) (sa_b (se_varB (i := 1) (hq := nq__law_other)) (sa_b ((se_var (i := 4) (hq := nq__law_size))).valBor sa_nil)) nq__law_offsets)).toBor sa_nil))).valBor)
  (sb_cons (ss_append (i := 2) (hq := nq__law_bars_here) (se_tup (n := 2) (sa_v se_str (sa_v (se_var (i := 4) (hq := nq__law_size)) sa_nil))))
  sb_nil)
  sb_nil)
  sb_nil)) (by first | decide | simp [Tg.is]))
  (sb_cons (ss_if (st_cmp (op_neD hr.units) opv_ne nox_ne (se_varB (i := 2) (hq := nq__law_bars_here)) ((se_lst (n := 0) sa_nil)).toBor)
  (sb_cons (ss_retV (i := 2) (hq := nq__law_bars_here))
  sb_nil)
  sb_nil)
  (sb_cons (ss_for (passes_of rfl) rfl (si_it (sq_val (se_var (i := 3) (hq := nq__law_sizes)))) (sg_name nd_bars_L) (fun s => (sb_cons (ss_set (i := 6) nd_bars_L ((se_listZip B B.zip ((se_call F_offsets_L (hr.mono (by decide)) (sa_b (se_varB (i := 0) (hq := nq__law_one)) (sa_b ((se_var (i := 4) (hq := nq__law_size))).valBor sa_nil)) nq__law_offsets)).toBor ((se_call F_offsets_L (hr.mono (by decide)) (sa_b (se_varB (i := 1) (hq := nq__law_other)) (sa_b ((se_var (i := 4) (hq := nq__law_size))).valBor sa_nil)) nq__law_offsets)).toBor)).toVal)
  (sb_cons (ss_if (st_cmp op_gt opv_gt nox_gt ((se_lenSet B (SE.toBor (se_comp [("_law_here", 7), ("_law_there", 8)] rfl nd_bars_L (si_it (sq_val (se_var (i := 6) (hq := nq__law_pairs)))) (blkOk_by (N := N_bars_L) (sc := defScope st_bars_L) (own := [("_law_here", 7), ("_law_there", 8)]) (by decide +kernel)) (by decide) (by decide) (fun _ _ _ _ _ => sg_tup rfl (sgs_cons nd_bars_L (sgs_cons nd_bars_L sgs_nil))) (fun _ _ _ _ _ => sp_nil) (fun _ _ _ _ _ => (se_sub ((se_var (i := 8) (hq := nq__law_there))).valBor ((se_var (i := 7) (hq := nq__law_here))).valBor)))))).valBor (se_int).valBor)
  (sb_cons (ss_append (i := 2) (hq := nq__law_bars_here) (se_tup (n := 2) (sa_v se_str (sa_v (se_var (i := 4) (hq := nq__law_size)) sa_nil))))
  sb_nil)
  sb_nil)
  sb_nil))) (by first | decide | simp [Tg.is]))
  (sb_cons (ss_retV (i := 2) (hq := nq__law_bars_here))
  sb_nil))))))
abbrev st_walks_right_L : Stmt := topS 45
abbrev N_walks_right_L : List Str := ["_law_one", "_law_other", "_law_walks_here", "_law_pair", "_law_most", "_law_size", "_law_offset", "_law_creels", "_law_creel", "_law_count"]
theorem sc_walks_right_L : FnScope N_walks_right_L ["_law_one", "_law_other", "_law_walks_here"] (defScope st_walks_right_L) := ⟨rfl, rfl, rfl, by decide +kernel, rfl, by decide +kernel, by decide +kernel⟩
theorem nd_walks_right_L : N_walks_right_L.Nodup := sc_walks_right_L.nd
theorem ok_walks_right_L [md : Md] {P : Program} {w : World} {K : PySem.W.Frag} {mg : Str → Option Value} {base : Heap} {cl : Cl} {fa : Addr} {fd : FuncData} (B : Bl mg) (hK : cl.K = K) (F : Fun K "_law_walks_right" "_law_walks_right" st_walks_right_L fa fd) (gm : mg "_law_walks_right" = some (.ref fa)) (bn : Binds K fd ["_law_one", "_law_other", "_law_walks_here"] []) (F_trains : Fi P w K mg base cl "trains" 6 [false] (.own none) f_trains) (F_same_L : Fi P w K mg base cl "_law_same" 8 [false, false] .val (f_same_L 8)) (F_far : Fi P w K mg base cl "far" 6 [false, false] (.own none) f_far) : Fi P w K mg base cl "_law_walks_right" 9 [false, false, false] .val f_walks_right_L := by
  refine def_ok (ls := [.val, .val, .val, .val, .val, .val, .val]) (m := m_walks_right_L) (ks' := []) F sc_walks_right_L gm bn rfl rfl rfl (.inl rfl) (fun cdv A outer s H E h0 s0 b0 hr => ?_)
  exact (sb_cons (ss_if (st_of (sw_or (st_not (st_val ((si_list B (se_varB (i := 2) (hq := nq__law_walks_here)))).valBor)) (sw_or1 (st_not (st_val ((sf_All B (sa_b (SE.toBor (se_comp [("_law_pair", 3)] rfl nd_walks_right_L (si_it (sq_bor (se_varB (i := 2) (hq := nq__law_walks_here)))) (blkOk_by (N := N_walks_right_L) (sc := defScope st_walks_right_L) (own := [("_law_pair", 3)]) (by decide +kernel)) (by decide) (by decide) (fun _ _ _ _ _ => sg_name nd_walks_right_L) (fun _ _ _ _ _ => sp_nil) (fun _ _ _ _ _ => (se_and (si_tuple B ((se_var (i := 3) (hq := nq__law_pair))).valBor) (se_one (se_cmp (op_eqD hr.units) opv_eq nox_eq ((sf_Len B (sa_b ((se_var (i := 3) (hq := nq__law_pair))).valBor sa_nil))).valBor (se_int).valBor)))))) sa_nil))).valBor)))))
  (sb_cons (ss_ret se_bl)
  sb_nil)
  sb_nil)
  (sb_cons (ss_set (i := 4) nd_walks_right_L (se_maxD B (SE.toBor (se_comp [("_law_size", 5), ("_law_offset", 6)] rfl nd_walks_right_L (si_it (sq_val ((se_call F_trains (hr.mono (by decide)) (sa_b ((sf_List B (sa_b (se_varB (i := 0) (hq := nq__law_one)) sa_nil))).toBor sa_nil) nq_trains)).toVal)) (blkOk_by (N := N_walks_right_L) (sc := defScope st_walks_right_L) (own := [("_law_size", 5), ("_law_offset", 6)]) (by decide +kernel)) (by decide) (by decide) (fun _ _ _ _ _ => sg_tup rfl (sgs_cons nd_walks_right_L (sgs_cons nd_walks_right_L sgs_nil))) (fun _ _ _ _ _ => sp_nil) (fun _ _ _ _ _ => (se_var (i := 5) (hq := nq__law_size))))) se_int))
  (sb_cons (ss_frzB (i := 7) (ss_setLc (i := 7) [("_law_creel", 8), ("_law_count", 9)] rfl nd_walks_right_L (si_it (sq_bor (se_varB (i := 2) (hq := nq__law_walks_here)))) (blkOk_by (N := N_walks_right_L) (sc := defScope st_walks_right_L) (own := [("_law_creel", 8), ("_law_count", 9)]) (by decide +kernel)) (by decide) (by decide) (fun _ _ _ _ _ => sg_tup rfl (sgs_cons nd_walks_right_L (sgs_cons nd_walks_right_L sgs_nil))) (fun _ _ _ _ _ => sp_nil) (fun _ _ _ _ _ => (se_var (i := 8) (hq := nq__law_creel))) (sw_true rfl rfl rfl (by decide +kernel))))
  (sb_cons (ss_for (passes_of rfl) rfl (si_it (sq_par (i := 2) (hq := nq__law_walks_here))) (sg_tup rfl (sgs_cons nd_walks_right_L (sgs_cons nd_walks_right_L sgs_nil))) (fun s => (sb_cons (ss_if (st_of (sw_or (st_not (st_val ((se_call F_same_L (hr.mono (by decide)) (sa_b ((se_lst (n := 2) (sa_v ((se_add ((se_var (i := 8) (hq := nq__law_creel))).valBor (se_int).valBor)).toVal (sa_v ((se_add ((se_var (i := 9) (hq := nq__law_count))).valBor (se_int).valBor)).toVal sa_nil)))).toBor (sa_b ((se_lst (n := 2) (sa_v (se_var (i := 8) (hq := nq__law_creel)) (sa_v (se_var (i := 9) (hq := nq__law_count)) sa_nil)))).toBor sa_nil)) nq__law_same)).valBor)) (sw_or (st_not (st_chain op_le opv_le nox_le op_le opv_le nox_le (se_int).valBor ((se_var (i := 8) (hq := nq__law_creel))).valBor ((se_var (i := 4) (hq := nq__law_most))).valBor)) (sw_or1 (st_cmp (op_eqD hr.units) opv_eq nox_eq ((se_var (i := 9) (hq := nq__law_count))).valBor (se_int).valBor)))))
  (sb_cons (ss_ret se_bl)
  sb_nil)
  sb_nil)
  sb_nil)) (by first | decide | simp [Tg.is]))
  (sb_cons (ss_ret (se_and (se_cmp (op_eqD hr.units) opv_eq nox_eq ((se_lenSet B ((se_var (i := 7) (hq := nq__law_creels))).valBor)).valBor ((sf_Len B (sa_b ((se_var (i := 7) (hq := nq__law_creels))).valBor sa_nil))).valBor) (se_one (se_cmp (op_eqD hr.units) opv_eq nox_eq ((se_call F_far (hr.mono (by decide)) (sa_b ((sf_List B (sa_b (se_varB (i := 0) (hq := nq__law_one)) sa_nil))).toBor (sa_b ((sf_List B (sa_b (se_varB (i := 2) (hq := nq__law_walks_here)) sa_nil))).toBor sa_nil)) nq_far)).toBor (se_varB (i := 1) (hq := nq__law_other))))))
  sb_nil)))))
abbrev st_right_L : Stmt := topS 46
abbrev N_right_L : List Str := ["_law_one", "_law_other", "_law_handed", "_law_found", "_law_bars_here", "_law_bar", "_law_again"]
theorem sc_right_L : FnScope N_right_L ["_law_one", "_law_other"] (defScope st_right_L) := ⟨rfl, rfl, rfl, by decide +kernel, rfl, by decide +kernel, by decide +kernel⟩
theorem nd_right_L : N_right_L.Nodup := sc_right_L.nd
theorem ok_right_L [md : Md] {P : Program} {w : World} {K : PySem.W.Frag} {mg : Str → Option Value} {base : Heap} {cl : Cl} {fa : Addr} {fd : FuncData} (B : Bl mg) (hK : cl.K = K) (F : Fun K "_law_right" "_law_right" st_right_L fa fd) (gm : mg "_law_right" = some (.ref fa)) (bn : Binds K fd ["_law_one", "_law_other"] []) (F_kin : Fi P w K mg base cl "kin" 6 [false, false] (.lls none (.own none)) f_kin) (F_list_L : Fi P w K mg base cl "_law_list" 2 [false] (.own none) f_list_L) (F_bars_L : Fi P w K mg base cl "_law_bars" 2 [false, false] (.own none) f_bars_L) (F_same_L : Fi P w K mg base cl "_law_same" 8 [false, false] .val (f_same_L 8)) (F_walks_right_L : Fi P w K mg base cl "_law_walks_right" 9 [false, false, false] .val f_walks_right_L) : Fi P w K mg base cl "_law_right" 10 [true, true] .val f_right_L := by
  refine def_ok (ls := [.val, .lls none (.own none), .val, .val, .val]) (m := m_right_L) (ks' := []) F sc_right_L gm bn rfl rfl rfl (.inl rfl) (fun cdv A outer s H E h0 s0 b0 hr => ?_)
  exact (sb_cons (ss_set (i := 2) nd_right_L ((se_lst (n := 2) (sa_v ((sf_List B (sa_b ((se_var (i := 0) (hq := nq__law_one))).valBor sa_nil))).toVal (sa_v ((sf_List B (sa_b ((se_var (i := 1) (hq := nq__law_other))).valBor sa_nil))).toVal sa_nil)))).toVal)
  (sb_cons (ss_set (i := 3) nd_right_L (se_call F_kin (hr.mono (by decide)) (sa_b ((se_ix ((se_var (i := 2) (hq := nq__law_handed))).valBor (se_int).valBor)).valBor (sa_b ((se_ix ((se_var (i := 2) (hq := nq__law_handed))).valBor (se_int).valBor)).valBor sa_nil)) nq_kin))
  (sb_cons (ss_set (i := 4) nd_right_L ((se_call F_bars_L (hr.mono (by decide)) (sa_b ((se_call F_list_L (hr.mono (by decide)) (sa_b ((se_var (i := 0) (hq := nq__law_one))).valBor sa_nil) nq__law_list)).toBor (sa_b ((se_call F_list_L (hr.mono (by decide)) (sa_b ((se_var (i := 1) (hq := nq__law_other))).valBor sa_nil) nq__law_list)).toBor sa_nil)) nq__law_bars)).toVal)
  (sb_cons (ss_if (st_of (sw_or (st_cmp (op_neD hr.units) opv_ne nox_ne ((se_var (i := 2) (hq := nq__law_handed))).valBor ((se_lst (n := 2) (sa_v (se_var (i := 0) (hq := nq__law_one)) (sa_v (se_var (i := 1) (hq := nq__law_other)) sa_nil)))).toBor) (sw_or (st_not (st_val ((se_scal (i := 3) (k := .lls none (.own none)) (si_tuple B ((se_var (i := 3) (hq := nq__law_found))).valBor))).valBor)) (sw_or1 (st_cmp (op_neD hr.units) opv_ne nox_ne ((se_scal (i := 3) (k := .lls none (.own none)) (sf_Len B (sa_b ((se_var (i := 3) (hq := nq__law_found))).valBor sa_nil)))).valBor (se_int).valBor)))))
  (sb_cons (ss_ret se_bl)
  sb_nil)
  sb_nil)
  (sb_cons (ss_if (st_cmp (op_neD hr.units) opv_ne nox_ne ((se_var (i := 4) (hq := nq__law_bars_here))).valBor ((se_lst (n := 0) sa_nil)).toBor)
  (sb_cons (ss_ret (sf_Any B (sa_b (SE.toBor (se_comp [("_law_bar", 5)] rfl nd_right_L (si_it (sq_val (se_var (i := 4) (hq := nq__law_bars_here)))) (blkOk_by (N := N_right_L) (sc := defScope st_right_L) (own := [("_law_bar", 5)]) (by decide +kernel)) (by decide) (by decide) (fun _ _ _ _ _ => sg_name nd_right_L) (fun _ _ _ _ _ => sp_nil) (fun _ _ _ _ _ => (se_scal (i := 3) (k := .lls none (.own none)) (se_call F_same_L (hr.mono (by decide)) (sa_b ((se_var (i := 3) (hq := nq__law_found))).valBor (sa_b ((se_var (i := 5) (hq := nq__law_bar))).valBor sa_nil)) nq__law_same))))) sa_nil)))
  sb_nil)
  sb_nil)
  (sb_cons (ss_if (st_of (sw_or (st_not (st_val ((se_scal (i := 3) (k := .lls none (.own none)) (se_call F_same_L (hr.mono (by decide)) (sa_b ((se_ix ((se_var (i := 3) (hq := nq__law_found))).valBor (se_int).valBor)).valBor (sa_b (se_str).valBor sa_nil)) nq__law_same))).valBor)) (sw_or1 (st_not (st_val ((se_scal (i := 3) (k := .lls none (.own none)) (se_call F_walks_right_L (hr.mono (by decide)) (sa_b ((se_var (i := 0) (hq := nq__law_one))).valBor (sa_b ((se_var (i := 1) (hq := nq__law_other))).valBor (sa_b ((se_ix ((se_var (i := 3) (hq := nq__law_found))).valBor (se_int).valBor)).valBor sa_nil))) nq__law_walks_right))).valBor)))))
  (sb_cons (ss_ret se_bl)
  sb_nil)
  sb_nil)
  (sb_cons (ss_eltAppT (i := 3) (c := 1) (se_tup (n := 2) (sa_v se_int (sa_v se_int sa_nil))) nq__law_found)
  (sb_cons (ss_set (i := 6) nd_right_L (SE.toVal (se_call F_kin (hr.mono (by decide)) (sa_b ((se_ix ((se_var (i := 2) (hq := nq__law_handed))).valBor (se_int).valBor)).valBor (sa_b ((se_ix ((se_var (i := 2) (hq := nq__law_handed))).valBor (se_int).valBor)).valBor sa_nil)) nq_kin)))
  (sb_cons (ss_ret (se_and (se_cmp (op_eqD hr.units) opv_eq nox_eq ((se_ix ((se_var (i := 6) (hq := nq__law_again))).valBor (se_int).valBor)).valBor (se_str).valBor) (se_one (se_call F_walks_right_L (hr.mono (by decide)) (sa_b ((se_var (i := 0) (hq := nq__law_one))).valBor (sa_b ((se_var (i := 1) (hq := nq__law_other))).valBor (sa_b ((se_ix ((se_var (i := 6) (hq := nq__law_again))).valBor (se_int).valBor)).valBor sa_nil))) nq__law_walks_right))))
  sb_nil)))))))))
abbrev st_law : Stmt := topS 47
abbrev N_law : List Str := ["_law_script", "_law_numbers_here", "_law_row_here", "_law_walks_here", "_law_pairs", "_law_others", "_law_at", "_law_more", "_law_other"]
theorem sc_law : FnScope N_law ["_law_script"] (defScope st_law) := ⟨rfl, rfl, rfl, by decide +kernel, rfl, by decide +kernel, by decide +kernel⟩
theorem nd_law : N_law.Nodup := sc_law.nd
open ModeZ in
theorem ok_law {P : Program} {w : World} {K : PySem.W.Frag} {mg : Str → Option Value} {base : Heap} {cl : Cl} {fa : Addr} {fd : FuncData} (B : Bl mg) (hK : cl.K = K) (F : Fun K "law" "law" st_law fa fd) (F_numbers_L : Fi P w K mg base cl "_law_numbers" 1 [false, false] (.own none) f_numbers_L) (F_long_row_L : Fi P w K mg base cl "_law_long_row" 2 [false, false] (.own none) f_long_row_L) (F_walks_L : Fi P w K mg base cl "_law_walks" 1 [false, false] (.own none) f_walks_L) (F_ten_L : Fi P w K mg base cl "_law_ten" 1 [false] .val f_ten_L) (F_list_L : Fi P w K mg base cl "_law_list" 2 [false] (.own none) f_list_L) (F_adds_L : Fi P w K mg base cl "_law_adds" 1 [false, false] (.own none) f_adds_L) (F_stones_L : Fi P w K mg base cl "_law_stones" 2 [false] (.own none) f_stones_L) (F_right_L : Fi P w K mg base cl "_law_right" 10 [true, true] .val f_right_L) : FnOk P w K mg base (L2.CX P w) 11 fa fd ["_law_script"] (spV cl [false] .val f_law) := by
  refine def_okF (md := mZ) (ls := [.val, .val, .val, .val, .own none, .val, .val, .val]) (m := m_law) (ks' := []) F sc_law rfl rfl rfl (.inl rfl) (fun cdv A outer s H E h0 s0 b0 hr => ?_)
  exact (sb_cons (ss_set (i := 1) nd_law ((se_call F_numbers_L (hr.mono (by decide)) (sa_b (se_varB (i := 0) (hq := nq__law_script)) (sa_b (se_int).valBor sa_nil)) nq__law_numbers)).toVal)
  (sb_cons (ss_set (i := 2) nd_law ((se_call F_long_row_L (hr.mono (by decide)) (sa_b ((se_slL ((se_var (i := 1) (hq := nq__law_numbers_here))).valBor (so_some (se_int).valBor) so_none)).toBor (sa_b ((se_ix ((se_lst (n := 3) (sa_v se_int (sa_v se_int (sa_v se_int sa_nil))))).toBor ((se_mod ((se_ix ((se_var (i := 1) (hq := nq__law_numbers_here))).valBor (se_int).valBor)).valBor (se_int).valBor)).valBor)).valBor sa_nil)) nq__law_long_row)).toVal)
  (sb_cons (ss_set (i := 3) nd_law ((se_add ((se_call F_walks_L (hr.mono (by decide)) (sa_b ((se_slL ((se_var (i := 1) (hq := nq__law_numbers_here))).valBor (so_some (se_int).valBor) so_none)).toBor (sa_b (se_int).valBor sa_nil)) nq__law_walks)).toBor ((se_lst (n := 1) (sa_v (se_tup (n := 2) (sa_v ((se_add (se_int).valBor ((se_mod ((se_ix ((se_var (i := 1) (hq := nq__law_numbers_here))).valBor (se_int).valBor)).valBor (se_int).valBor)).valBor)).toVal (sa_v ((se_mul ((se_sub ((se_mod ((se_ix ((se_var (i := 1) (hq := nq__law_numbers_here))).valBor (se_int).valBor)).valBor (se_int).valBor)).valBor (se_int).valBor)).valBor ((se_call F_ten_L (hr.mono (by decide)) (sa_b ((se_mod ((se_ix ((se_var (i := 1) (hq := nq__law_numbers_here))).valBor (se_int).valBor)).valBor (se_int).valBor)).valBor sa_nil) nq__law_ten)).valBor)).toVal sa_nil))) sa_nil))).toBor)).toVal)
  (sb_cons (ss_set (i := 4) nd_law ((se_call F_adds_L (hr.mono (by decide)) (sa_b ((se_call F_list_L (hr.mono (by decide)) (sa_b ((se_var (i := 2) (hq := nq__law_row_here))).valBor sa_nil) nq__law_list)).toBor (sa_b ((se_var (i := 3) (hq := nq__law_walks_here))).valBor sa_nil)) nq__law_adds)).toVal)
  (sb_cons (ss_set (i := 5) nd_law (se_lst (n := 3) (sa_v (se_var (i := 2) (hq := nq__law_row_here)) (sa_v ((se_call F_stones_L (hr.mono (by decide)) (sa_b ((se_var (i := 4) (hq := nq__law_pairs))).valBor sa_nil) nq__law_stones)).toVal (sa_v ((se_call F_long_row_L (hr.mono (by decide)) (sa_b ((se_slL ((se_var (i := 1) (hq := nq__law_numbers_here))).valBor (so_some (se_int).valBor) so_none)).toBor (sa_b (se_int).valBor sa_nil)) nq__law_long_row)).toVal sa_nil)))))
  (sb_cons (ss_if (st_cmp (op_neD hr.units) opv_ne nox_ne ((se_var (i := 4) (hq := nq__law_pairs))).valBor ((se_lst (n := 0) sa_nil)).toBor)
  (sb_cons (ss_set (i := 6) nd_law (se_mod ((se_ix ((se_var (i := 1) (hq := nq__law_numbers_here))).valBor (se_int).valBor)).valBor ((sf_Len B (sa_b ((se_var (i := 4) (hq := nq__law_pairs))).valBor sa_nil))).valBor))
  (sb_cons (ss_set (i := 7) nd_law ((se_add ((se_add ((se_slL ((se_var (i := 4) (hq := nq__law_pairs))).valBor so_none (so_some ((se_var (i := 6) (hq := nq__law_at))).valBor))).toBor ((se_lst (n := 1) (sa_v (se_tup (n := 2) (sa_v (se_ix ((se_ix ((se_var (i := 4) (hq := nq__law_pairs))).valBor ((se_var (i := 6) (hq := nq__law_at))).valBor)).valBor (se_int).valBor) (sa_v ((se_add ((se_add ((se_ix ((se_ix ((se_var (i := 4) (hq := nq__law_pairs))).valBor ((se_var (i := 6) (hq := nq__law_at))).valBor)).valBor (se_int).valBor)).valBor (se_int).valBor)).toBor ((se_mod ((se_ix ((se_var (i := 1) (hq := nq__law_numbers_here))).valBor (se_int).valBor)).valBor (se_int).valBor)).valBor)).toVal sa_nil))) sa_nil))).toBor)).toBor ((se_slL ((se_var (i := 4) (hq := nq__law_pairs))).valBor (so_some ((se_add ((se_var (i := 6) (hq := nq__law_at))).valBor (se_int).valBor)).toBor) so_none)).toBor)).toVal)
  (sb_cons (ss_append (i := 5) (hq := nq__law_others) ((se_call F_stones_L (hr.mono (by decide)) (sa_b ((se_var (i := 7) (hq := nq__law_more))).valBor sa_nil) nq__law_stones)).toVal)
  (sb_cons (ss_append (i := 5) (hq := nq__law_others) ((se_call F_stones_L (hr.mono (by decide)) (sa_b ((se_add ((se_add ((se_slL ((se_var (i := 4) (hq := nq__law_pairs))).valBor so_none (so_some ((se_var (i := 6) (hq := nq__law_at))).valBor))).toBor ((se_lst (n := 1) (sa_v (se_tup (n := 2) (sa_v ((se_add ((se_ix ((se_ix ((se_var (i := 4) (hq := nq__law_pairs))).valBor ((se_var (i := 6) (hq := nq__law_at))).valBor)).valBor (se_int).valBor)).valBor (se_int).valBor)).toVal (sa_v (se_ix ((se_ix ((se_var (i := 4) (hq := nq__law_pairs))).valBor ((se_var (i := 6) (hq := nq__law_at))).valBor)).valBor (se_int).valBor) sa_nil))) sa_nil))).toBor)).toBor ((se_slL ((se_var (i := 4) (hq := nq__law_pairs))).valBor (so_some ((se_add ((se_var (i := 6) (hq := nq__law_at))).valBor (se_int).valBor)).toBor) so_none)).toBor)).toBor sa_nil) nq__law_stones)).toVal)
  (sb_cons (ss_append (i := 5) (hq := nq__law_others) ((se_call F_stones_L (hr.mono (by decide)) (sa_b ((se_add ((se_var (i := 7) (hq := nq__law_more))).valBor ((se_slL ((se_var (i := 4) (hq := nq__law_pairs))).valBor so_none (so_some (se_int).valBor))).toBor)).toBor sa_nil) nq__law_stones)).toVal)
  sb_nil)))))
  sb_nil)
  (sb_cons (ss_ret (sf_All B (sa_b (SE.toBor (se_comp [("_law_other", 8)] rfl nd_law (si_it (sq_bor (se_varB (i := 5) (hq := nq__law_others)))) (blkOk_by (N := N_law) (sc := defScope st_law) (own := [("_law_other", 8)]) (by decide +kernel)) (by decide) (by decide) (fun _ _ _ _ _ => sg_name nd_law) (fun _ _ _ _ _ => sp_nil) (fun _ _ _ _ _ => (se_and (se_call F_right_L (hr.mono (by decide)) (sa_v (se_var (i := 2) (hq := nq__law_row_here)) (sa_v (se_var (i := 8) (hq := nq__law_other)) sa_nil)) nq__law_right) (se_one (se_call F_right_L (hr.mono (by decide)) (sa_v (se_var (i := 8) (hq := nq__law_other)) (sa_v (se_var (i := 2) (hq := nq__law_row_here)) sa_nil)) nq__law_right)))))) sa_nil)))
  sb_nil)))))))
abbrev in_BadRow : Stmt := initS 4
theorem isc_BadRow : FnScope ["self", "at"] ["self", "at"] (defScope in_BadRow) := ⟨rfl, rfl, rfl, by decide +kernel, rfl, by decide +kernel, by decide +kernel⟩
theorem bn_look_row {K : PySem.W.Frag} {fa : Addr} {fd : FuncData} (F : Fun K "look_row" "look_row" st_look_row fa fd) : Binds K fd ["row"] [] := F.binds fun _ _ _ _ _ _ us hl => match us, hl with | [_], _ => rfl
theorem bn_look_creel {K : PySem.W.Frag} {fa : Addr} {fd : FuncData} (F : Fun K "look_creel" "look_creel" st_look_creel fa fd) : Binds K fd ["creel"] [] := F.binds fun _ _ _ _ _ _ us hl => match us, hl with | [_], _ => rfl
theorem bn_share {K : PySem.W.Frag} {fa : Addr} {fd : FuncData} (F : Fun K "share" "share" st_share fa fd) : Binds K fd ["trains", "size"] [] := F.binds fun _ _ _ _ _ _ us hl => match us, hl with | [_, _], _ => rfl
theorem bn_mark {K : PySem.W.Frag} {fa : Addr} {fd : FuncData} (F : Fun K "mark" "mark" st_mark fa fd) : Binds K fd ["trains", "size", "place"] [] := F.binds fun _ _ _ _ _ _ us hl => match us, hl with | [_, _, _], _ => rfl
theorem bn_longest_ripe {K : PySem.W.Frag} {fa : Addr} {fd : FuncData} (F : Fun K "longest_ripe" "longest_ripe" st_longest_ripe fa fd) : Binds K fd ["found", "place"] [] := F.binds fun _ _ _ _ _ _ us hl => match us, hl with | [_, _], _ => rfl
theorem bn_grown {K : PySem.W.Frag} {fa : Addr} {fd : FuncData} (F : Fun K "grown" "grown" st_grown fa fd) : Binds K fd ["found", "place"] [] := F.binds fun _ _ _ _ _ _ us hl => match us, hl with | [_, _], _ => rfl
theorem bn_list_of {K : PySem.W.Frag} {fa : Addr} {fd : FuncData} (F : Fun K "list_of" "list_of" st_list_of fa fd) : Binds K fd ["row"] [] := F.binds fun _ _ _ _ _ _ us hl => match us, hl with | [_], _ => rfl
theorem bn_trains {K : PySem.W.Frag} {fa : Addr} {fd : FuncData} (F : Fun K "trains" "trains" st_trains fa fd) : Binds K fd ["row"] [] := F.binds fun _ _ _ _ _ _ us hl => match us, hl with | [_], _ => rfl
theorem bn_next_place {K : PySem.W.Frag} {fa : Addr} {fd : FuncData} (F : Fun K "next_place" "next_place" st_next_place fa fd) : Binds K fd ["left"] [] := F.binds fun _ _ _ _ _ _ us hl => match us, hl with | [_], _ => rfl
theorem bn_shortest_ripe {K : PySem.W.Frag} {fa : Addr} {fd : FuncData} (F : Fun K "shortest_ripe" "shortest_ripe" st_shortest_ripe fa fd) : Binds K fd ["left", "place"] [] := F.binds fun _ _ _ _ _ _ us hl => match us, hl with | [_, _], _ => rfl
theorem bn_shrunk {K : PySem.W.Frag} {fa : Addr} {fd : FuncData} (F : Fun K "shrunk" "shrunk" st_shrunk fa fd) : Binds K fd ["left", "place"] [] := F.binds fun _ _ _ _ _ _ us hl => match us, hl with | [_, _], _ => rfl
theorem bn_stones_of {K : PySem.W.Frag} {fa : Addr} {fd : FuncData} (F : Fun K "stones_of" "stones_of" st_stones_of fa fd) : Binds K fd ["left"] [] := F.binds fun _ _ _ _ _ _ us hl => match us, hl with | [_], _ => rfl
theorem bn_look_walks {K : PySem.W.Frag} {fa : Addr} {fd : FuncData} (F : Fun K "look_walks" "look_walks" st_look_walks fa fd) : Binds K fd ["walks"] [] := F.binds fun _ _ _ _ _ _ us hl => match us, hl with | [_], _ => rfl
theorem bn_by_walks {K : PySem.W.Frag} {fa : Addr} {fd : FuncData} (F : Fun K "by_walks" "by_walks" st_by_walks fa fd) : Binds K fd ["walks", "size"] [] := F.binds fun _ _ _ _ _ _ us hl => match us, hl with | [_, _], _ => rfl
theorem bn_added_to {K : PySem.W.Frag} {fa : Addr} {fd : FuncData} (F : Fun K "added_to" "added_to" st_added_to fa fd) : Binds K fd ["found", "walks"] [] := F.binds fun _ _ _ _ _ _ us hl => match us, hl with | [_, _], _ => rfl
theorem bn_far {K : PySem.W.Frag} {fa : Addr} {fd : FuncData} (F : Fun K "far" "far" st_far fa fd) : Binds K fd ["row", "walks"] [] := F.binds fun _ _ _ _ _ _ us hl => match us, hl with | [_, _], _ => rfl
theorem bn_offsets_of {K : PySem.W.Frag} {fa : Addr} {fd : FuncData} (F : Fun K "offsets_of" "offsets_of" st_offsets_of fa fd) : Binds K fd ["found", "size"] [] := F.binds fun _ _ _ _ _ _ us hl => match us, hl with | [_, _], _ => rfl
theorem bn_bar_of {K : PySem.W.Frag} {fa : Addr} {fd : FuncData} (F : Fun K "bar_of" "bar_of" st_bar_of fa fd) : Binds K fd ["one", "other"] [] := F.binds fun _ _ _ _ _ _ us hl => match us, hl with | [_, _], _ => rfl
theorem bn_steps_by_size {K : PySem.W.Frag} {fa : Addr} {fd : FuncData} (F : Fun K "steps_by_size" "steps_by_size" st_steps_by_size fa fd) : Binds K fd ["one", "other"] [] := F.binds fun _ _ _ _ _ _ us hl => match us, hl with | [_, _], _ => rfl
theorem bn_walks_by {K : PySem.W.Frag} {fa : Addr} {fd : FuncData} (F : Fun K "walks_by" "walks_by" st_walks_by fa fd) : Binds K fd ["found"] [] := F.binds fun _ _ _ _ _ _ us hl => match us, hl with | [_], _ => rfl
theorem bn_kin {K : PySem.W.Frag} {fa : Addr} {fd : FuncData} (F : Fun K "kin" "kin" st_kin fa fd) : Binds K fd ["one", "other"] [] := F.binds fun _ _ _ _ _ _ us hl => match us, hl with | [_, _], _ => rfl
theorem bn_numbers_L {K : PySem.W.Frag} {fa : Addr} {fd : FuncData} (F : Fun K "_law_numbers" "_law_numbers" st_numbers_L fa fd) : Binds K fd ["_law_script", "_law_many"] [] := F.binds fun _ _ _ _ _ _ us hl => match us, hl with | [_, _], _ => rfl
theorem bn_same_L {K : PySem.W.Frag} {fa : Addr} {fd : FuncData} (F : Fun K "_law_same" "_law_same" st_same_L fa fd) : Binds K fd ["_law_found", "_law_due"] [] := F.binds fun _ _ _ _ _ _ us hl => match us, hl with | [_, _], _ => rfl
theorem bn_row_L {K : PySem.W.Frag} {fa : Addr} {fd : FuncData} (F : Fun K "_law_row" "_law_row" st_row_L fa fd) : Binds K fd ["_law_d", "_law_most"] [] := F.binds fun _ _ _ _ _ _ us hl => match us, hl with | [_, _], _ => rfl
theorem bn_long_row_L {K : PySem.W.Frag} {fa : Addr} {fd : FuncData} (F : Fun K "_law_long_row" "_law_long_row" st_long_row_L fa fd) : Binds K fd ["_law_d", "_law_most"] [] := F.binds fun _ _ _ _ _ _ us hl => match us, hl with | [_, _], _ => rfl
theorem bn_lesser_L {K : PySem.W.Frag} {fa : Addr} {fd : FuncData} (F : Fun K "_law_lesser" "_law_lesser" st_lesser_L fa fd) : Binds K fd ["_law_found", "_law_size"] [] := F.binds fun _ _ _ _ _ _ us hl => match us, hl with | [_, _], _ => rfl
theorem bn_list_L {K : PySem.W.Frag} {fa : Addr} {fd : FuncData} (F : Fun K "_law_list" "_law_list" st_list_L fa fd) : Binds K fd ["_law_row_here"] [] := F.binds fun _ _ _ _ _ _ us hl => match us, hl with | [_], _ => rfl
theorem bn_stones_L {K : PySem.W.Frag} {fa : Addr} {fd : FuncData} (F : Fun K "_law_stones" "_law_stones" st_stones_L fa fd) : Binds K fd ["_law_pairs"] [] := F.binds fun _ _ _ _ _ _ us hl => match us, hl with | [_], _ => rfl
theorem bn_walks_L {K : PySem.W.Frag} {fa : Addr} {fd : FuncData} (F : Fun K "_law_walks" "_law_walks" st_walks_L fa fd) : Binds K fd ["_law_d", "_law_many"] [] := F.binds fun _ _ _ _ _ _ us hl => match us, hl with | [_, _], _ => rfl
theorem bn_adds_L {K : PySem.W.Frag} {fa : Addr} {fd : FuncData} (F : Fun K "_law_adds" "_law_adds" st_adds_L fa fd) : Binds K fd ["_law_pairs", "_law_walks_here"] [] := F.binds fun _ _ _ _ _ _ us hl => match us, hl with | [_, _], _ => rfl
theorem bn_ten_L {K : PySem.W.Frag} {fa : Addr} {fd : FuncData} (F : Fun K "_law_ten" "_law_ten" st_ten_L fa fd) : Binds K fd ["_law_many"] [] := F.binds fun _ _ _ _ _ _ us hl => match us, hl with | [_], _ => rfl
theorem bn_offsets_L {K : PySem.W.Frag} {fa : Addr} {fd : FuncData} (F : Fun K "_law_offsets" "_law_offsets" st_offsets_L fa fd) : Binds K fd ["_law_pairs", "_law_size"] [] := F.binds fun _ _ _ _ _ _ us hl => match us, hl with | [_, _], _ => rfl
theorem bn_bars_L {K : PySem.W.Frag} {fa : Addr} {fd : FuncData} (F : Fun K "_law_bars" "_law_bars" st_bars_L fa fd) : Binds K fd ["_law_one", "_law_other"] [] := F.binds fun _ _ _ _ _ _ us hl => match us, hl with | [_, _], _ => rfl
theorem bn_walks_right_L {K : PySem.W.Frag} {fa : Addr} {fd : FuncData} (F : Fun K "_law_walks_right" "_law_walks_right" st_walks_right_L fa fd) : Binds K fd ["_law_one", "_law_other", "_law_walks_here"] [] := F.binds fun _ _ _ _ _ _ us hl => match us, hl with | [_, _, _], _ => rfl
theorem bn_right_L {K : PySem.W.Frag} {fa : Addr} {fd : FuncData} (F : Fun K "_law_right" "_law_right" st_right_L fa fd) : Binds K fd ["_law_one", "_law_other"] [] := F.binds fun _ _ _ _ _ _ us hl => match us, hl with | [_, _], _ => rfl
theorem bl_mk {K : PySem.W.Frag} {h : Heap} {mg : Str → Option Value} (X : K.In h) (G : h.Ns mainGlobals mg) (z_len : PySem.W.nsIn K mainGlobals "len" = some none) (z_range : PySem.W.nsIn K mainGlobals "range" = some none) (z_min : PySem.W.nsIn K mainGlobals "min" = some none) (z_max : PySem.W.nsIn K mainGlobals "max" = some none) (z_abs : PySem.W.nsIn K mainGlobals "abs" = some none) (z_sum : PySem.W.nsIn K mainGlobals "sum" = some none) (z_all : PySem.W.nsIn K mainGlobals "all" = some none) (z_any : PySem.W.nsIn K mainGlobals "any" = some none) (z_sorted : PySem.W.nsIn K mainGlobals "sorted" = some none) (z_list : PySem.W.nsIn K mainGlobals "list" = some none) (z_tuple : PySem.W.nsIn K mainGlobals "tuple" = some none) (z_int : PySem.W.nsIn K mainGlobals "int" = some none) (z_bool : PySem.W.nsIn K mainGlobals "bool" = some none) (z_str : PySem.W.nsIn K mainGlobals "str" = some none) (z_isinstance : PySem.W.nsIn K mainGlobals "isinstance" = some none) (z_zip : PySem.W.nsIn K mainGlobals "zip" = some none) (z_enumerate : PySem.W.nsIn K mainGlobals "enumerate" = some none) (z_reversed : PySem.W.nsIn K mainGlobals "reversed" = some none) (z_set : PySem.W.nsIn K mainGlobals "set" = some none) (z_dict : PySem.W.nsIn K mainGlobals "dict" = some none) : Bl mg := ⟨PySem.W.mg_none_of X G z_len, PySem.W.mg_none_of X G z_range, PySem.W.mg_none_of X G z_min, PySem.W.mg_none_of X G z_max, PySem.W.mg_none_of X G z_abs, PySem.W.mg_none_of X G z_sum, PySem.W.mg_none_of X G z_all, PySem.W.mg_none_of X G z_any, PySem.W.mg_none_of X G z_sorted, PySem.W.mg_none_of X G z_list, PySem.W.mg_none_of X G z_tuple, PySem.W.mg_none_of X G z_int, PySem.W.mg_none_of X G z_bool, PySem.W.mg_none_of X G z_str, PySem.W.mg_none_of X G z_isinstance, PySem.W.mg_none_of X G z_zip, PySem.W.mg_none_of X G z_enumerate, PySem.W.mg_none_of X G z_reversed, PySem.W.mg_none_of X G z_set, PySem.W.mg_none_of X G z_dict⟩
open ModeZ in
theorem all_mk {l : PySem.W.OpenLaw} {w : World} {K : PySem.W.Frag} {h : Heap} {mg : Str → Option Value} {fa : Addr} {t_MOST_STONES : Tok} {a_BadRow : Addr} {i_BadRow : Addr} {nm_BadRow q_BadRow : Str} {N_BadRow : Addr} {bs_BadRow bm_BadRow sub_BadRow : List Value} {sn_BadRow : List Str} {ab_BadRow : Bool} {col_BadRow : Option Bool} {dd_BadRow : Option Addr} {m0_BadRow m1_BadRow m2_BadRow m3_BadRow m5_BadRow : Option Value} {oc_BadRow kV_BadRow dc_BadRow pm_BadRow cd_BadRow ct_BadRow : Value} {od_BadRow an_BadRow : Option Addr} {sl_BadRow : Array (Option Value)} {a_BadCreel : Addr} {a_TooMany : Addr} (X : K.In h) (G : h.Ns mainGlobals mg) (hfa : mg "law" = some (.ref fa))  (C_MOST_STONES : PySem.W.nsIn K mainGlobals "MOST_STONES" = some (some (.int 60 t_MOST_STONES))) (g_BadRow : PySem.W.nsIn K mainGlobals "BadRow" = some (some (.ref a_BadRow))) (k_BadRow : PySem.W.keepIn K (.ref a_BadRow) = true) (s_BadRow : PySem.W.subIn K (.ref a_BadRow) (.type "BaseException") = some true) (t_BadRow : PySem.W.typeIn K (.ref a_BadRow) = some (.type "type")) (l_BadRow : K.lookup a_BadRow = some (excClassObj nm_BadRow q_BadRow a_BadRow N_BadRow bs_BadRow bm_BadRow true sn_BadRow sub_BadRow ab_BadRow col_BadRow dd_BadRow m0_BadRow m1_BadRow m2_BadRow m3_BadRow m5_BadRow "ValueError.__new__")) (r_BadRow : PySem.HandSPX.refsVE bm_BadRow = true) (sa_BadRow : PySem.W.findIn K (.ref a_BadRow) "__setattr__" = some (some (.builtin "object.__setattr__"))) (no_BadRow : PySem.W.findIn K (.ref a_BadRow) "at" = some none) (jn_BadRow : PySem.W.findIn K (.ref a_BadRow) "__init__" = some (some (.ref i_BadRow))) (ti_BadRow : PySem.W.typeIn K (.ref i_BadRow) = some (.type "function")) (li_BadRow : K.lookup i_BadRow = some ⟨oc_BadRow, od_BadRow, .func (PySem.W.fnOf "__init__" "BadRow.__init__" (defArgs in_BadRow) (defBody in_BadRow) (defScope in_BadRow) .none kV_BadRow dc_BadRow pm_BadRow an_BadRow cd_BadRow ct_BadRow), sl_BadRow⟩) (ci_BadRow : PySem.W.codeIn K cd_BadRow "BadRow.__init__" = true) (ki_BadRow : PySem.W.keepIn K (.ref i_BadRow) = true) (g_BadCreel : PySem.W.nsIn K mainGlobals "BadCreel" = some (some (.ref a_BadCreel))) (x_BadCreel : PySem.W.excIn K a_BadCreel [.type "ValueError", .type "Exception", .type "BaseException", .type "object"] "ValueError.__new__" = true) (k_BadCreel : PySem.W.keepIn K (.ref a_BadCreel) = true) (s_BadCreel : PySem.W.subIn K (.ref a_BadCreel) (.type "BaseException") = some true) (t_BadCreel : PySem.W.typeIn K (.ref a_BadCreel) = some (.type "type")) (g_TooMany : PySem.W.nsIn K mainGlobals "TooMany" = some (some (.ref a_TooMany))) (x_TooMany : PySem.W.excIn K a_TooMany [.type "ValueError", .type "Exception", .type "BaseException", .type "object"] "ValueError.__new__" = true) (k_TooMany : PySem.W.keepIn K (.ref a_TooMany) = true) (s_TooMany : PySem.W.subIn K (.ref a_TooMany) (.type "BaseException") = some true) (t_TooMany : PySem.W.typeIn K (.ref a_TooMany) = some (.type "type")) (A_look_row : AtF K mg "look_row" "look_row" st_look_row) (A_look_creel : AtF K mg "look_creel" "look_creel" st_look_creel) (A_share : AtF K mg "share" "share" st_share) (A_mark : AtF K mg "mark" "mark" st_mark) (A_longest_ripe : AtF K mg "longest_ripe" "longest_ripe" st_longest_ripe) (A_grown : AtF K mg "grown" "grown" st_grown) (A_list_of : AtF K mg "list_of" "list_of" st_list_of) (A_trains : AtF K mg "trains" "trains" st_trains) (A_next_place : AtF K mg "next_place" "next_place" st_next_place) (A_shortest_ripe : AtF K mg "shortest_ripe" "shortest_ripe" st_shortest_ripe) (A_shrunk : AtF K mg "shrunk" "shrunk" st_shrunk) (A_stones_of : AtF K mg "stones_of" "stones_of" st_stones_of) (A_look_walks : AtF K mg "look_walks" "look_walks" st_look_walks) (A_by_walks : AtF K mg "by_walks" "by_walks" st_by_walks) (A_added_to : AtF K mg "added_to" "added_to" st_added_to) (A_far : AtF K mg "far" "far" st_far) (A_offsets_of : AtF K mg "offsets_of" "offsets_of" st_offsets_of) (A_bar_of : AtF K mg "bar_of" "bar_of" st_bar_of) (A_steps_by_size : AtF K mg "steps_by_size" "steps_by_size" st_steps_by_size) (A_walks_by : AtF K mg "walks_by" "walks_by" st_walks_by) (A_kin : AtF K mg "kin" "kin" st_kin) (A_numbers_L : AtF K mg "_law_numbers" "_law_numbers" st_numbers_L) (A_same_L : AtF K mg "_law_same" "_law_same" st_same_L) (A_row_L : AtF K mg "_law_row" "_law_row" st_row_L) (A_long_row_L : AtF K mg "_law_long_row" "_law_long_row" st_long_row_L) (A_lesser_L : AtF K mg "_law_lesser" "_law_lesser" st_lesser_L) (A_list_L : AtF K mg "_law_list" "_law_list" st_list_L) (A_stones_L : AtF K mg "_law_stones" "_law_stones" st_stones_L) (A_walks_L : AtF K mg "_law_walks" "_law_walks" st_walks_L) (A_adds_L : AtF K mg "_law_adds" "_law_adds" st_adds_L) (A_ten_L : AtF K mg "_law_ten" "_law_ten" st_ten_L) (A_offsets_L : AtF K mg "_law_offsets" "_law_offsets" st_offsets_L) (A_bars_L : AtF K mg "_law_bars" "_law_bars" st_bars_L) (A_walks_right_L : AtF K mg "_law_walks_right" "_law_walks_right" st_walks_right_L) (A_right_L : AtF K mg "_law_right" "_law_right" st_right_L) (A_law : AtF K mg "law" "law" st_law) (z_len : PySem.W.nsIn K mainGlobals "len" = some none) (z_range : PySem.W.nsIn K mainGlobals "range" = some none) (z_min : PySem.W.nsIn K mainGlobals "min" = some none) (z_max : PySem.W.nsIn K mainGlobals "max" = some none) (z_abs : PySem.W.nsIn K mainGlobals "abs" = some none) (z_sum : PySem.W.nsIn K mainGlobals "sum" = some none) (z_all : PySem.W.nsIn K mainGlobals "all" = some none) (z_any : PySem.W.nsIn K mainGlobals "any" = some none) (z_sorted : PySem.W.nsIn K mainGlobals "sorted" = some none) (z_list : PySem.W.nsIn K mainGlobals "list" = some none) (z_tuple : PySem.W.nsIn K mainGlobals "tuple" = some none) (z_int : PySem.W.nsIn K mainGlobals "int" = some none) (z_bool : PySem.W.nsIn K mainGlobals "bool" = some none) (z_str : PySem.W.nsIn K mainGlobals "str" = some none) (z_isinstance : PySem.W.nsIn K mainGlobals "isinstance" = some none) (z_zip : PySem.W.nsIn K mainGlobals "zip" = some none) (z_enumerate : PySem.W.nsIn K mainGlobals "enumerate" = some none) (z_reversed : PySem.W.nsIn K mainGlobals "reversed" = some none) (z_set : PySem.W.nsIn K mainGlobals "set" = some none) (z_dict : PySem.W.nsIn K mainGlobals "dict" = some none) :
    ∃ fd : FuncData, (∀ (s : Shared) (v : Value), BindsTo s fd ⟨[v], []⟩ [("_law_script", v)]) ∧ ∀ base : Heap, K.In base → base.Ns mainGlobals mg → FnOk l.prog w K mg base (L2.CX l.prog w) 65 fa fd ["_law_script"] (spLaw K) := by
  obtain ⟨fa_look_row, fd_look_row, F_look_row, g_look_row⟩ := A_look_row.ex
  obtain ⟨fa_look_creel, fd_look_creel, F_look_creel, g_look_creel⟩ := A_look_creel.ex
  obtain ⟨fa_share, fd_share, F_share, g_share⟩ := A_share.ex
  obtain ⟨fa_mark, fd_mark, F_mark, g_mark⟩ := A_mark.ex
  obtain ⟨fa_longest_ripe, fd_longest_ripe, F_longest_ripe, g_longest_ripe⟩ := A_longest_ripe.ex
  obtain ⟨fa_grown, fd_grown, F_grown, g_grown⟩ := A_grown.ex
  obtain ⟨fa_list_of, fd_list_of, F_list_of, g_list_of⟩ := A_list_of.ex
  obtain ⟨fa_trains, fd_trains, F_trains, g_trains⟩ := A_trains.ex
  obtain ⟨fa_next_place, fd_next_place, F_next_place, g_next_place⟩ := A_next_place.ex
  obtain ⟨fa_shortest_ripe, fd_shortest_ripe, F_shortest_ripe, g_shortest_ripe⟩ := A_shortest_ripe.ex
  obtain ⟨fa_shrunk, fd_shrunk, F_shrunk, g_shrunk⟩ := A_shrunk.ex
  obtain ⟨fa_stones_of, fd_stones_of, F_stones_of, g_stones_of⟩ := A_stones_of.ex
  obtain ⟨fa_look_walks, fd_look_walks, F_look_walks, g_look_walks⟩ := A_look_walks.ex
  obtain ⟨fa_by_walks, fd_by_walks, F_by_walks, g_by_walks⟩ := A_by_walks.ex
  obtain ⟨fa_added_to, fd_added_to, F_added_to, g_added_to⟩ := A_added_to.ex
  obtain ⟨fa_far, fd_far, F_far, g_far⟩ := A_far.ex
  obtain ⟨fa_offsets_of, fd_offsets_of, F_offsets_of, g_offsets_of⟩ := A_offsets_of.ex
  obtain ⟨fa_bar_of, fd_bar_of, F_bar_of, g_bar_of⟩ := A_bar_of.ex
  obtain ⟨fa_steps_by_size, fd_steps_by_size, F_steps_by_size, g_steps_by_size⟩ := A_steps_by_size.ex
  obtain ⟨fa_walks_by, fd_walks_by, F_walks_by, g_walks_by⟩ := A_walks_by.ex
  obtain ⟨fa_kin, fd_kin, F_kin, g_kin⟩ := A_kin.ex
  obtain ⟨fa_numbers_L, fd_numbers_L, F_numbers_L, g_numbers_L⟩ := A_numbers_L.ex
  obtain ⟨fa_same_L, fd_same_L, F_same_L, g_same_L⟩ := A_same_L.ex
  obtain ⟨fa_row_L, fd_row_L, F_row_L, g_row_L⟩ := A_row_L.ex
  obtain ⟨fa_long_row_L, fd_long_row_L, F_long_row_L, g_long_row_L⟩ := A_long_row_L.ex
  obtain ⟨fa_lesser_L, fd_lesser_L, F_lesser_L, g_lesser_L⟩ := A_lesser_L.ex
  obtain ⟨fa_list_L, fd_list_L, F_list_L, g_list_L⟩ := A_list_L.ex
  obtain ⟨fa_stones_L, fd_stones_L, F_stones_L, g_stones_L⟩ := A_stones_L.ex
  obtain ⟨fa_walks_L, fd_walks_L, F_walks_L, g_walks_L⟩ := A_walks_L.ex
  obtain ⟨fa_adds_L, fd_adds_L, F_adds_L, g_adds_L⟩ := A_adds_L.ex
  obtain ⟨fa_ten_L, fd_ten_L, F_ten_L, g_ten_L⟩ := A_ten_L.ex
  obtain ⟨fa_offsets_L, fd_offsets_L, F_offsets_L, g_offsets_L⟩ := A_offsets_L.ex
  obtain ⟨fa_bars_L, fd_bars_L, F_bars_L, g_bars_L⟩ := A_bars_L.ex
  obtain ⟨fa_walks_right_L, fd_walks_right_L, F_walks_right_L, g_walks_right_L⟩ := A_walks_right_L.ex
  obtain ⟨fa_right_L, fd_right_L, F_right_L, g_right_L⟩ := A_right_L.ex
  obtain ⟨fa_law, fd_law, F_law, g_law⟩ := A_law.ex
  have e := hfa.symm.trans g_law
  cases e
  have B := bl_mk X G z_len z_range z_min z_max z_abs z_sum z_all z_any z_sorted z_list z_tuple z_int z_bool z_str z_isinstance z_zip z_enumerate z_reversed z_set z_dict
  have F := F_law
  obtain ⟨oc, od, kV, doc, pm, an, cdv, ct, osl, e, lk, hcd⟩ := F_law.ex
  subst e
  refine ⟨PySem.W.fnOf "law" "law" (defArgs st_law) (defBody st_law) (defScope st_law) .none kV doc pm an cdv ct, fun s v => .of_eq rfl, fun base _ _ => ?_⟩
  let cl : Cl := ⟨fun n => List.lookup n [("BadRow", a_BadRow), ("BadCreel", a_BadCreel), ("TooMany", a_TooMany)], K, fun n => List.lookup n []⟩
  have hK : cl.K = K := rfl
  have C_MOST_STONES := PySem.W.mg_of X G C_MOST_STONES
  have FI_BadRow := fun_mk (st := in_BadRow) li_BadRow ci_BadRow ki_BadRow
  have X_BadRow : XAt l.prog w K mg base cl "BadRow" 1 := xat_mk (st := in_BadRow) ⟨⟨_, _, _, _, _, _, _, _, _, _, _, _, _, _, _, l_BadRow, r_BadRow⟩, sa_BadRow, s_BadRow, t_BadRow, k_BadRow⟩ rfl (PySem.W.mg_of X G g_BadRow) jn_BadRow ti_BadRow no_BadRow FI_BadRow isc_BadRow (FI_BadRow.binds fun _ _ _ _ _ _ us hl => match us, hl with | [_, _], _ => rfl) rfl (by first | exact Or.inl rfl | exact Or.inr (Or.inl rfl) | exact Or.inr (Or.inr rfl)) (by first | exact Or.inl rfl | exact Or.inr (Or.inl rfl) | exact Or.inr (Or.inr rfl)) (fun _ _ => rfl)
  have X_BadCreel : XPlain K mg cl "BadCreel" := ⟨a_BadCreel, rfl, PySem.W.mg_of X G g_BadCreel, x_BadCreel, k_BadCreel, s_BadCreel, t_BadCreel⟩
  have X_TooMany : XPlain K mg cl "TooMany" := ⟨a_TooMany, rfl, PySem.W.mg_of X G g_TooMany, x_TooMany, k_TooMany, s_TooMany, t_TooMany⟩
  have P_look_row := ok_look_row (P := l.prog) (w := w) (base := base) (cl := cl) B hK F_look_row g_look_row (bn_look_row F_look_row) C_MOST_STONES X_BadRow X_TooMany
  have P_look_creel := ok_look_creel (P := l.prog) (w := w) (base := base) (cl := cl) B hK F_look_creel g_look_creel (bn_look_creel F_look_creel) X_BadCreel
  have P_share := ok_share (P := l.prog) (w := w) (base := base) (cl := cl) B hK F_share g_share (bn_share F_share) 
  have P_mark := ok_mark (P := l.prog) (w := w) (base := base) (cl := cl) B hK F_mark g_mark (bn_mark F_mark) P_share
  have P_longest_ripe := ok_longest_ripe (P := l.prog) (w := w) (base := base) (cl := cl) B hK F_longest_ripe g_longest_ripe (bn_longest_ripe F_longest_ripe) P_mark
  have P_grown := ok_grown (P := l.prog) (w := w) (base := base) (cl := cl) B hK F_grown g_grown (bn_grown F_grown) P_longest_ripe P_mark P_share
  have P_list_of := ok_list_of (P := l.prog) (w := w) (base := base) (cl := cl) B hK F_list_of g_list_of (bn_list_of F_list_of) P_grown
  have P_trains := ok_trains (P := l.prog) (w := w) (base := base) (cl := cl) B hK F_trains g_trains (bn_trains F_trains) P_look_row P_list_of
  have P_next_place := ok_next_place (P := l.prog) (w := w) (base := base) (cl := cl) B hK F_next_place g_next_place (bn_next_place F_next_place) P_share
  have P_shortest_ripe := ok_shortest_ripe (P := l.prog) (w := w) (base := base) (cl := cl) B hK F_shortest_ripe g_shortest_ripe (bn_shortest_ripe F_shortest_ripe) P_mark
  have P_shrunk := ok_shrunk (P := l.prog) (w := w) (base := base) (cl := cl) B hK F_shrunk g_shrunk (bn_shrunk F_shrunk) P_shortest_ripe P_mark P_share
  have P_stones_of := ok_stones_of (P := l.prog) (w := w) (base := base) (cl := cl) B hK F_stones_of g_stones_of (bn_stones_of F_stones_of) P_next_place P_shrunk
  have P_look_walks := ok_look_walks (P := l.prog) (w := w) (base := base) (cl := cl) B hK F_look_walks g_look_walks (bn_look_walks F_look_walks) P_look_creel
  have P_by_walks := ok_by_walks (P := l.prog) (w := w) (base := base) (cl := cl) B hK F_by_walks g_by_walks (bn_by_walks F_by_walks) 
  have P_added_to := ok_added_to (P := l.prog) (w := w) (base := base) (cl := cl) B hK F_added_to g_added_to (bn_added_to F_added_to) P_by_walks
  have P_far := ok_far (P := l.prog) (w := w) (base := base) (cl := cl) B hK F_far g_far (bn_far F_far) P_look_row P_look_walks P_list_of P_added_to P_stones_of
  have P_offsets_of := ok_offsets_of (P := l.prog) (w := w) (base := base) (cl := cl) B hK F_offsets_of g_offsets_of (bn_offsets_of F_offsets_of) 
  have P_bar_of := ok_bar_of (P := l.prog) (w := w) (base := base) (cl := cl) B hK F_bar_of g_bar_of (bn_bar_of F_bar_of) P_offsets_of
  have P_steps_by_size := ok_steps_by_size (P := l.prog) (w := w) (base := base) (cl := cl) B hK F_steps_by_size g_steps_by_size (bn_steps_by_size F_steps_by_size) P_offsets_of
  have P_walks_by := ok_walks_by (P := l.prog) (w := w) (base := base) (cl := cl) B hK F_walks_by g_walks_by (bn_walks_by F_walks_by) 
  have P_kin := ok_kin (P := l.prog) (w := w) (base := base) (cl := cl) B hK F_kin g_kin (bn_kin F_kin) P_look_row P_list_of P_bar_of P_steps_by_size P_walks_by
  have P_numbers_L := ok_numbers_L (P := l.prog) (w := w) (base := base) (cl := cl) B hK F_numbers_L g_numbers_L (bn_numbers_L F_numbers_L) 
  have P_same_L := ok_same_L (P := l.prog) (w := w) (base := base) (cl := cl) B hK F_same_L g_same_L (bn_same_L F_same_L)  8
  have P_row_L := ok_row_L (P := l.prog) (w := w) (base := base) (cl := cl) B hK F_row_L g_row_L (bn_row_L F_row_L) 
  have P_long_row_L := ok_long_row_L (P := l.prog) (w := w) (base := base) (cl := cl) B hK F_long_row_L g_long_row_L (bn_long_row_L F_long_row_L) P_row_L
  have P_lesser_L := ok_lesser_L (P := l.prog) (w := w) (base := base) (cl := cl) B hK F_lesser_L g_lesser_L (bn_lesser_L F_lesser_L) 
  have P_list_L := ok_list_L (P := l.prog) (w := w) (base := base) (cl := cl) B hK F_list_L g_list_L (bn_list_L F_list_L) P_lesser_L
  have P_stones_L := ok_stones_L (P := l.prog) (w := w) (base := base) (cl := cl) B hK F_stones_L g_stones_L (bn_stones_L F_stones_L) P_lesser_L
  have P_walks_L := ok_walks_L (P := l.prog) (w := w) (base := base) (cl := cl) B hK F_walks_L g_walks_L (bn_walks_L F_walks_L) 
  have P_adds_L := ok_adds_L (P := l.prog) (w := w) (base := base) (cl := cl) B hK F_adds_L g_adds_L (bn_adds_L F_adds_L) 
  have P_ten_L := ok_ten_L (P := l.prog) (w := w) (base := base) (cl := cl) B hK F_ten_L g_ten_L (bn_ten_L F_ten_L) 
  have P_offsets_L := ok_offsets_L (P := l.prog) (w := w) (base := base) (cl := cl) B hK F_offsets_L g_offsets_L (bn_offsets_L F_offsets_L) 
  have P_bars_L := ok_bars_L (P := l.prog) (w := w) (base := base) (cl := cl) B hK F_bars_L g_bars_L (bn_bars_L F_bars_L) P_offsets_L
  have P_walks_right_L := ok_walks_right_L (P := l.prog) (w := w) (base := base) (cl := cl) B hK F_walks_right_L g_walks_right_L (bn_walks_right_L F_walks_right_L) P_trains P_same_L P_far
  have P_right_L := ok_right_L (P := l.prog) (w := w) (base := base) (cl := cl) B hK F_right_L g_right_L (bn_right_L F_right_L) P_kin P_list_L P_bars_L P_same_L P_walks_right_L
  exact law_end hK (ok_law (P := l.prog) (w := w) (base := base) B hK F P_numbers_L P_long_row_L P_walks_L P_ten_L P_list_L P_adds_L P_stones_L P_right_L) CW.law_ok (by decide)
end CW
end
open PySem PySem.W PyProof.Rows
set_option maxRecDepth 100000 in
set_option maxHeartbeats 0 in
theorem PySem.Challenge.cw_creelway_k31_whole_kin_or_what_bars_holds : PySem.Challenge.rw_creelway_k31_whole_kin_or_what_bars.Holds := by
  w_on; o_law; k_head; (case hw => w_witness2)
  k_fill
  refine VL.law_walk (l := PySem.Challenge.rw_creelway_k31_whole_kin_or_what_bars) (x := "_law_script") rfl rfl (fun w h Y => PySem.W.kIn_of Y) ?F
  case F =>
    intro w mg fa h KX G hmg
    refine' CW.all_mk KX G hmg ?c_MOST_STONES ?g_BadRow ?k_BadRow ?s_BadRow ?t_BadRow ?l_BadRow ?r_BadRow ?sa_BadRow ?no_BadRow ?jn_BadRow ?ti_BadRow ?li_BadRow ?ci_BadRow ?ki_BadRow ?g_BadCreel ?x_BadCreel ?k_BadCreel ?s_BadCreel ?t_BadCreel ?g_TooMany ?x_TooMany ?k_TooMany ?s_TooMany ?t_TooMany ?a_look_row ?a_look_creel ?a_share ?a_mark ?a_longest_ripe ?a_grown ?a_list_of ?a_trains ?a_next_place ?a_shortest_ripe ?a_shrunk ?a_stones_of ?a_look_walks ?a_by_walks ?a_added_to ?a_far ?a_offsets_of ?a_bar_of ?a_steps_by_size ?a_walks_by ?a_kin ?a_numbers_L ?a_same_L ?a_row_L ?a_long_row_L ?a_lesser_L ?a_list_L ?a_stones_L ?a_walks_L ?a_adds_L ?a_ten_L ?a_offsets_L ?a_bars_L ?a_walks_right_L ?a_right_L ?a_law ?z_len ?z_range ?z_min ?z_max ?z_abs ?z_sum ?z_all ?z_any ?z_sorted ?z_list ?z_tuple ?z_int ?z_bool ?z_str ?z_isinstance ?z_zip ?z_enumerate ?z_reversed ?z_set ?z_dict
    (case c_MOST_STONES => k_is)
    (case g_BadRow => k_is)
    (case k_BadRow => k_is)
    (case s_BadRow => k_is)
    (case t_BadRow => k_is)
    (case l_BadRow => k_is)
    (case r_BadRow => decide +kernel)
    (case sa_BadRow => k_is)
    (case no_BadRow => k_is)
    (case jn_BadRow => k_is)
    (case ti_BadRow => k_is)
    (case li_BadRow => k_is)
    (case ci_BadRow => k_is)
    (case ki_BadRow => k_is)
    (case g_BadCreel => k_is)
    (case x_BadCreel => k_exc)
    (case k_BadCreel => k_is)
    (case s_BadCreel => k_is)
    (case t_BadCreel => k_is)
    (case g_TooMany => k_is)
    (case x_TooMany => k_exc)
    (case k_TooMany => k_is)
    (case s_TooMany => k_is)
    (case t_TooMany => k_is)
    (case a_look_row => refine' VL.at_mk KX G ?b1 ?b2 ?b3 ?b4; (case b1 => k_is); (case b2 => k_is); (case b3 => k_is); (case b4 => k_is))
    (case a_look_creel => refine' VL.at_mk KX G ?b1 ?b2 ?b3 ?b4; (case b1 => k_is); (case b2 => k_is); (case b3 => k_is); (case b4 => k_is))
    (case a_share => refine' VL.at_mk KX G ?b1 ?b2 ?b3 ?b4; (case b1 => k_is); (case b2 => k_is); (case b3 => k_is); (case b4 => k_is))
    (case a_mark => refine' VL.at_mk KX G ?b1 ?b2 ?b3 ?b4; (case b1 => k_is); (case b2 => k_is); (case b3 => k_is); (case b4 => k_is))
    (case a_longest_ripe => refine' VL.at_mk KX G ?b1 ?b2 ?b3 ?b4; (case b1 => k_is); (case b2 => k_is); (case b3 => k_is); (case b4 => k_is))
    (case a_grown => refine' VL.at_mk KX G ?b1 ?b2 ?b3 ?b4; (case b1 => k_is); (case b2 => k_is); (case b3 => k_is); (case b4 => k_is))
    (case a_list_of => refine' VL.at_mk KX G ?b1 ?b2 ?b3 ?b4; (case b1 => k_is); (case b2 => k_is); (case b3 => k_is); (case b4 => k_is))
    (case a_trains => refine' VL.at_mk KX G ?b1 ?b2 ?b3 ?b4; (case b1 => k_is); (case b2 => k_is); (case b3 => k_is); (case b4 => k_is))
    (case a_next_place => refine' VL.at_mk KX G ?b1 ?b2 ?b3 ?b4; (case b1 => k_is); (case b2 => k_is); (case b3 => k_is); (case b4 => k_is))
    (case a_shortest_ripe => refine' VL.at_mk KX G ?b1 ?b2 ?b3 ?b4; (case b1 => k_is); (case b2 => k_is); (case b3 => k_is); (case b4 => k_is))
    (case a_shrunk => refine' VL.at_mk KX G ?b1 ?b2 ?b3 ?b4; (case b1 => k_is); (case b2 => k_is); (case b3 => k_is); (case b4 => k_is))
    (case a_stones_of => refine' VL.at_mk KX G ?b1 ?b2 ?b3 ?b4; (case b1 => k_is); (case b2 => k_is); (case b3 => k_is); (case b4 => k_is))
    (case a_look_walks => refine' VL.at_mk KX G ?b1 ?b2 ?b3 ?b4; (case b1 => k_is); (case b2 => k_is); (case b3 => k_is); (case b4 => k_is))
    (case a_by_walks => refine' VL.at_mk KX G ?b1 ?b2 ?b3 ?b4; (case b1 => k_is); (case b2 => k_is); (case b3 => k_is); (case b4 => k_is))
    (case a_added_to => refine' VL.at_mk KX G ?b1 ?b2 ?b3 ?b4; (case b1 => k_is); (case b2 => k_is); (case b3 => k_is); (case b4 => k_is))
    (case a_far => refine' VL.at_mk KX G ?b1 ?b2 ?b3 ?b4; (case b1 => k_is); (case b2 => k_is); (case b3 => k_is); (case b4 => k_is))
    (case a_offsets_of => refine' VL.at_mk KX G ?b1 ?b2 ?b3 ?b4; (case b1 => k_is); (case b2 => k_is); (case b3 => k_is); (case b4 => k_is))
    (case a_bar_of => refine' VL.at_mk KX G ?b1 ?b2 ?b3 ?b4; (case b1 => k_is); (case b2 => k_is); (case b3 => k_is); (case b4 => k_is))
    (case a_steps_by_size => refine' VL.at_mk KX G ?b1 ?b2 ?b3 ?b4; (case b1 => k_is); (case b2 => k_is); (case b3 => k_is); (case b4 => k_is))
    (case a_walks_by => refine' VL.at_mk KX G ?b1 ?b2 ?b3 ?b4; (case b1 => k_is); (case b2 => k_is); (case b3 => k_is); (case b4 => k_is))
    (case a_kin => refine' VL.at_mk KX G ?b1 ?b2 ?b3 ?b4; (case b1 => k_is); (case b2 => k_is); (case b3 => k_is); (case b4 => k_is))
    (case a_numbers_L => refine' VL.at_mk KX G ?b1 ?b2 ?b3 ?b4; (case b1 => k_is); (case b2 => k_is); (case b3 => k_is); (case b4 => k_is))
    (case a_same_L => refine' VL.at_mk KX G ?b1 ?b2 ?b3 ?b4; (case b1 => k_is); (case b2 => k_is); (case b3 => k_is); (case b4 => k_is))
    (case a_row_L => refine' VL.at_mk KX G ?b1 ?b2 ?b3 ?b4; (case b1 => k_is); (case b2 => k_is); (case b3 => k_is); (case b4 => k_is))
    (case a_long_row_L => refine' VL.at_mk KX G ?b1 ?b2 ?b3 ?b4; (case b1 => k_is); (case b2 => k_is); (case b3 => k_is); (case b4 => k_is))
    (case a_lesser_L => refine' VL.at_mk KX G ?b1 ?b2 ?b3 ?b4; (case b1 => k_is); (case b2 => k_is); (case b3 => k_is); (case b4 => k_is))
    (case a_list_L => refine' VL.at_mk KX G ?b1 ?b2 ?b3 ?b4; (case b1 => k_is); (case b2 => k_is); (case b3 => k_is); (case b4 => k_is))
    (case a_stones_L => refine' VL.at_mk KX G ?b1 ?b2 ?b3 ?b4; (case b1 => k_is); (case b2 => k_is); (case b3 => k_is); (case b4 => k_is))
    (case a_walks_L => refine' VL.at_mk KX G ?b1 ?b2 ?b3 ?b4; (case b1 => k_is); (case b2 => k_is); (case b3 => k_is); (case b4 => k_is))
    (case a_adds_L => refine' VL.at_mk KX G ?b1 ?b2 ?b3 ?b4; (case b1 => k_is); (case b2 => k_is); (case b3 => k_is); (case b4 => k_is))
    (case a_ten_L => refine' VL.at_mk KX G ?b1 ?b2 ?b3 ?b4; (case b1 => k_is); (case b2 => k_is); (case b3 => k_is); (case b4 => k_is))
    (case a_offsets_L => refine' VL.at_mk KX G ?b1 ?b2 ?b3 ?b4; (case b1 => k_is); (case b2 => k_is); (case b3 => k_is); (case b4 => k_is))
    (case a_bars_L => refine' VL.at_mk KX G ?b1 ?b2 ?b3 ?b4; (case b1 => k_is); (case b2 => k_is); (case b3 => k_is); (case b4 => k_is))
    (case a_walks_right_L => refine' VL.at_mk KX G ?b1 ?b2 ?b3 ?b4; (case b1 => k_is); (case b2 => k_is); (case b3 => k_is); (case b4 => k_is))
    (case a_right_L => refine' VL.at_mk KX G ?b1 ?b2 ?b3 ?b4; (case b1 => k_is); (case b2 => k_is); (case b3 => k_is); (case b4 => k_is))
    (case a_law => refine' VL.at_mk KX G ?b1 ?b2 ?b3 ?b4; (case b1 => k_is); (case b2 => k_is); (case b3 => k_is); (case b4 => k_is))
    (case z_len => k_is)
    (case z_range => k_is)
    (case z_min => k_is)
    (case z_max => k_is)
    (case z_abs => k_is)
    (case z_sum => k_is)
    (case z_all => k_is)
    (case z_any => k_is)
    (case z_sorted => k_is)
    (case z_list => k_is)
    (case z_tuple => k_is)
    (case z_int => k_is)
    (case z_bool => k_is)
    (case z_str => k_is)
    (case z_isinstance => k_is)
    (case z_zip => k_is)
    (case z_enumerate => k_is)
    (case z_reversed => k_is)
    (case z_set => k_is)
    (case z_dict => k_is)
