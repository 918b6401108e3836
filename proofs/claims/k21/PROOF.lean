import PyProof.Rows.All
import Wide.All
import OpenK.AllK
import Wide.FinOn
import HandS.ForMost
import HandS.ForExc
import HandS.Lambda
import HandS.Walk
import HandS.Zip
import HandS.HeadHook1
import HandS.TupAny
import HandS.Style
import HandS.Defaults
import HandS.Wide
import HandS.TupMul
import HandS.Deep
import HandS.IsInst
import HandS.SortKw
import HandS.SortInts
import KE.SortData
import HandS.Star
import KE.GoesEnum
import HandS.Iter
import KE.DataMinMax
import HandS.Property
import HandS.ClsMeth
import HandS.HeadNt
import HandS.TryMany
import HandS.TryOnly
import HandS.ExcField
import HandS.ExcOwn
import PyProof.ReprRoads
import PyProof.ReprLen
import KE.KExcSuper
import KE.KExcInit
import HandS.ExcInit
import HandS.ExcValue
import HandS.FStr
import PyProof.FitsInt
import KE.KStateDown
import HandS.Head0
import HandS.Head1
import HandS.Head2
import HandS.HeadEnd
import HandS.HeadHook2
import HandS.HeadHook3
import HandS.HeadHook4
import HandS.HeadWalk
import HandS.EndTab
import HandS.EndBits
import PyProof.DictDisplay
import KE.KRevSl
import HandS.Conv
import KE.KDictZip
import HandS.Zip0
import HandS.ListItems
import HandS.RaiseMore
import PyProof.MaxThree
import Lean
import PySem.Challenge.RW_sumsalone_k21_most_units_by_all_sets
import HandS.Dict
import HandS.SetFor
import HandS.Strs
import HandS.TupSets
import HandS.Small
import HandS.DictComp
import HandS.OwnEq
import OpenK.KOps
import HandS.Nested
import KE.SortKeyHeap
import KE.KSortKey
import HandS.Text
import KE.KCallOwn
import PyProof.Rows.MatchSeqLen
import PyProof.RulesMatchSeq
import KE.KUnpack
import KE.DataMinKey
import PyProof.Rows.AssignMoreSeq
import KE.GoesEnumKw
import KE.KDictPairs
import PyProof.Rows.TupDisplay
import KE.KDictDisplayH
set_option Elab.async false
set_option linter.all false
set_option maxRecDepth 100000
set_option maxHeartbeats 0
namespace Pd
open PySem PySem.Spec PyProof.Rows L2 LamX

inductive D where
  | non
  | bl (b : Bool)
  | int (i : Int)
  | str (x : Str)
  | tup (xs : List D)
  | lst (xs : List D)
  | scr (ns : List Int)
  | dic (kvs : List (Key × D))
  | dit (kvs : List (List Key × D))
  | ins (C : Str) (fs : List (Str × D))
  | box (a : Addr)
  | raw (v : V)
  | cls (C : Str)

structure Wd where
  M : Hp
  B : List Addr
def Wd.add (wd : Wd) (p : Addr) (o : HO) : Wd := ⟨upd wd.M p o, wd.B⟩
def Sub (M M' : Hp) : Prop := ∀ a o, M a = some o → M' a = some o
theorem Sub.refl (M : Hp) : Sub M M := fun _ _ h => h
theorem Sub.trans {M M1 M2 : Hp} (a : Sub M M1) (b : Sub M1 M2) : Sub M M2 := fun x o h => b x o (a x o h)
theorem Sub.new {M : Hp} {p : Addr} {o : HO} (h : M p = none) : Sub M (upd M p o) := fun a u e => by
  rw [upd_ne (ne_of_none e h)]
  exact e
structure Le (wd wd' : Wd) : Prop where
  m : Sub wd.M wd'.M
  b : ∀ a ∈ wd.B, a ∈ wd'.B
theorem Le.refl (wd : Wd) : Le wd wd := ⟨Sub.refl _, fun _ h => h⟩
theorem Le.trans {a b c : Wd} (x : Le a b) (y : Le b c) : Le a c := ⟨x.m.trans y.m, fun z h => y.b z (x.b z h)⟩
theorem Le.add {wd : Wd} {p : Addr} {o : HO} (h : wd.M p = none) : Le wd (wd.add p o) := ⟨Sub.new h, fun _ h => h⟩

section
variable (K : PySem.W.Frag)
theorem sqL_mono {M M' : Hp} {a : Addr} {xs : List V} (s : Sub M M') (h : SqL K M a xs) : SqL K M' a xs := by
  rcases h with (h | ⟨o, h⟩) | h
  · exact .inl (.inl (s _ _ h))
  · exact .inl (.inr ⟨o, s _ _ h⟩)
  · exact .inr h
theorem sqT_sub {M M' : Hp} {a : Addr} {xs : List V} (s : Sub M M') (h : M a = some (.tup xs)) : SqT K M' a xs := .inl (.inl (s _ _ h))
theorem sqT_mono {M M' : Hp} {a : Addr} {xs : List V} (s : Sub M M') (h : SqT K M a xs) : SqT K M' a xs := by
  rcases h with (h | ⟨o, h⟩) | h
  · exact .inl (.inl (s _ _ h))
  · exact .inl (.inr ⟨o, s _ _ h⟩)
  · exact .inr h

mutual
inductive Rep (wd : Wd) : V → D → Prop
  | non : Rep wd .non .non
  | bl (b : Bool) : Rep wd (.bl b) (.bl b)
  | int (i : Int) : Rep wd (.int i) (.int i)
  | str (x : Str) : Rep wd (.str x) (.str x)
  | tup {a : Addr} {vs : List V} {ds : List D} : wd.M a = some (.tup vs) → Reps wd vs ds → Rep wd (.ref a) (.tup ds)
  | lst {a : Addr} {vs : List V} {ds : List D} : wd.M a = some (.lst vs) → Reps wd vs ds → Rep wd (.ref a) (.lst ds)
  | scr {a : Addr} {ns : List Int} : SqL K wd.M a (ns.map V.int) → Rep wd (.ref a) (.scr ns)
  | dic {a : Addr} {vs : List (Key × V)} {ds : List (Key × D)} : wd.M a = some (.dK vs) → vs.map (·.1) = ds.map (·.1) → Reps wd (vs.map (·.2)) (ds.map (·.2)) → Rep wd (.ref a) (.dic ds)
  | dit {a : Addr} {o : Obj} {vs : List (List Key × V)} {ds : List (List Key × D)} : wd.M a = some (.frz o (.dT vs)) → vs.map (·.1) = ds.map (·.1) → Reps wd (vs.map (·.2)) (ds.map (·.2)) → Rep wd (.ref a) (.dit ds)
  | ins {a dx : Addr} {C : Str} {vs : List (Str × V)} {ds : List (Str × D)} : wd.M a = some (.ins (He.ga K C) dx vs) → vs.map (·.1) = ds.map (·.1) → Reps wd (vs.map (·.2)) (ds.map (·.2)) → Rep wd (.ref a) (.ins C ds)
  | box {a : Addr} : a ∈ wd.B → Rep wd (.ref a) (.box a)
  | raw (v : V) : Rep wd v (.raw v)
  | cls (C : Str) : Rep wd (.ref (He.ga K C)) (.cls C)
inductive Reps (wd : Wd) : List V → List D → Prop
  | nil : Reps wd [] []
  | cons {v : V} {vs : List V} {d : D} {ds : List D} : Rep wd v d → Reps wd vs ds → Reps wd (v :: vs) (d :: ds)
end
end

section
variable {K : PySem.W.Frag} {wd wd' : Wd}
mutual
theorem Rep.mono (le : Le wd wd') : ∀ {v : V} {d : D}, Rep K wd v d → Rep K wd' v d
  | _, _, .non => .non
  | _, _, .bl b => .bl b
  | _, _, .int i => .int i
  | _, _, .str x => .str x
  | _, _, .tup h r => .tup (le.m _ _ h) (Reps.mono le r)
  | _, _, .lst h r => .lst (le.m _ _ h) (Reps.mono le r)
  | _, _, .scr h => .scr (sqL_mono K le.m h)
  | _, _, .dic h e r => .dic (le.m _ _ h) e (Reps.mono le r)
  | _, _, .dit h e r => .dit (le.m _ _ h) e (Reps.mono le r)
  | _, _, .ins h e r => .ins (le.m _ _ h) e (Reps.mono le r)
  | _, _, .box h => .box (le.b _ h)
  | _, _, .raw v => .raw v
  | _, _, .cls C => .cls C
theorem Reps.mono (le : Le wd wd') : ∀ {vs : List V} {ds : List D}, Reps K wd vs ds → Reps K wd' vs ds
  | _, _, .nil => .nil
  | _, _, .cons h t => .cons (Rep.mono le h) (Reps.mono le t)
end
theorem Reps.length : ∀ {vs : List V} {ds : List D}, Reps K wd vs ds → vs.length = ds.length
  | _, _, .nil => rfl
  | _, _, .cons _ t => congrArg (· + 1) t.length
theorem Reps.get : ∀ {vs : List V} {ds : List D} {i : Nat} {d : D}, Reps K wd vs ds → ds[i]? = some d → ∃ v, vs[i]? = some v ∧ Rep K wd v d
  | _, _, i, _, .nil, e => by simp at e
  | _, _, 0, _, .cons h _, e => by simp at e; subst e; exact ⟨_, rfl, h⟩
  | _, _, i + 1, _, .cons _ t, e => by
    obtain ⟨v, e1, r⟩ := Reps.get (i := i) t (by simpa using e)
    exact ⟨v, by simpa using e1, r⟩
theorem Reps.getV : ∀ {vs : List V} {ds : List D} {i : Nat} {v : V}, Reps K wd vs ds → vs[i]? = some v → ∃ d, ds[i]? = some d ∧ Rep K wd v d
  | _, _, i, _, .nil, e => by simp at e
  | _, _, 0, _, .cons h _, e => by simp at e; subst e; exact ⟨_, rfl, h⟩
  | _, _, i + 1, _, .cons _ t, e => by
    obtain ⟨v, e1, r⟩ := Reps.getV (i := i) t (by simpa using e)
    exact ⟨v, by simpa using e1, r⟩
theorem Reps.append : ∀ {vs ws : List V} {ds es : List D}, Reps K wd vs ds → Reps K wd ws es → Reps K wd (vs ++ ws) (ds ++ es)
  | _, _, _, _, .nil, s => s
  | _, _, _, _, .cons h t, s => .cons h (Reps.append t s)
theorem Reps.take : ∀ {vs : List V} {ds : List D} (n : Nat), Reps K wd vs ds → Reps K wd (vs.take n) (ds.take n)
  | _, _, 0, _ => .nil
  | _, _, _ + 1, .nil => .nil
  | _, _, n + 1, .cons h t => .cons h (Reps.take n t)
theorem Reps.drop : ∀ {vs : List V} {ds : List D} (n : Nat), Reps K wd vs ds → Reps K wd (vs.drop n) (ds.drop n)
  | _, _, 0, r => r
  | _, _, _ + 1, .nil => .nil
  | _, _, n + 1, .cons _ t => Reps.drop n t
theorem Reps.set : ∀ {vs : List V} {ds : List D} {v : V} {d : D} (n : Nat), Rep K wd v d → Reps K wd vs ds → Reps K wd (vs.set n v) (ds.set n d)
  | _, _, _, _, _, _, .nil => .nil
  | _, _, _, _, 0, h, .cons _ t => .cons h t
  | _, _, _, _, n + 1, h, .cons a t => .cons a (Reps.set n h t)
theorem Reps.reverse : ∀ {vs : List V} {ds : List D}, Reps K wd vs ds → Reps K wd vs.reverse ds.reverse
  | _, _, .nil => .nil
  | _, _, .cons h t => by
    rw [List.reverse_cons, List.reverse_cons]
    exact (Reps.reverse t).append (.cons h .nil)
theorem Reps.rep : ∀ {vs : List V} {ds : List D} (n : Nat), Reps K wd vs ds → Reps K wd (List.replicate n vs).flatten (List.replicate n ds).flatten
  | _, _, 0, _ => .nil
  | _, _, n + 1, h => by
    rw [List.replicate_succ, List.replicate_succ, List.flatten_cons, List.flatten_cons]
    exact h.append (Reps.rep n h)
theorem Reps.ints : ∀ {vs : List V} {ns : List Int}, Reps K wd vs (ns.map D.int) → vs = ns.map V.int
  | _, [], h => by cases h; rfl
  | _, n :: ns, h => by
    cases h with
    | cons a t =>
      cases a
      rw [Reps.ints t]
      rfl
theorem Reps.bools : ∀ {vs : List V} {ns : List Bool}, Reps K wd vs (ns.map D.bl) → vs = ns.map V.bl
  | _, [], h => by cases h; rfl
  | _, n :: ns, h => by
    cases h with
    | cons a t =>
      cases a
      rw [Reps.bools t]
      rfl
end
end Pd

namespace Pd
open PySem PySem.Spec PyProof.Rows L2 LamX

def BoxAt (H : Hp) (b : Addr) : Prop := ∃ g s c : Int, H b = some (.lst [.int g, .int s, .int c]) ∧ 0 ≤ g ∧ g < 2 ^ 4000 ∧ 0 ≤ s ∧ s < 2 ^ 100 ∧ 0 ≤ c
def noTb (o : HO) : Prop := ∀ ps, o ≠ .tbl ps
def Sized : HO → Prop
  | .lst xs => xs.length ≤ sizeLine
  | .tup xs => xs.length ≤ sizeLine
  | .frz _ u => Sized u
  | _ => True
def SizedH : HO → Prop
  | .frz _ _ => True
  | .lst xs => xs.length ≤ sizeLine
  | .tup xs => xs.length ≤ sizeLine
  | _ => True
theorem Sized.h : ∀ {o : HO}, Sized o → SizedH o := fun {o} z => by
  cases o <;> first | exact trivial | exact z
structure Good (T : List (Addr × Str)) (wd : Wd) (H : Hp) : Prop where
  sub : Sub wd.M H
  ntb : ∀ a o, wd.M a = some o → noTb o ∧ Sized o
  box : ∀ b ∈ wd.B, wd.M b = none ∧ BoxAt H b
  tab : Tabs T H
  siz : ∀ a o, H a = some o → SizedH o
def Nt (H : Hp) (a : Addr) : Prop := ∀ o, H a = some o → ¬ noTb o
theorem Nt.of {H : Hp} {a : Addr} (h : H a = none) : Nt H a := fun o e => by
  rw [h] at e
  cases e
theorem Nt.no {H : Hp} {a : Addr} {o : HO} (n : Nt H a) (e : H a = some o) (t : noTb o) : False := n o e t
theorem Nt.upd {H : Hp} {p a : Addr} {o : HO} (n : Nt (upd H p o) a) (ne : a ≠ p) : Nt H a := fun u e => n u (by rw [upd_ne ne]; exact e)
structure Ord (wd0 wd : Wd) (H0 : Hp) : Prop where
  le : Le wd0 wd
  fm : ∀ a o, wd.M a = some o → wd0.M a = some o ∨ Nt H0 a ∨ ∃ vs, o = .tup vs
  fb : ∀ b ∈ wd.B, b ∈ wd0.B ∨ Nt H0 b
structure Keep (wd0 : Wd) (H0 H : Hp) : Prop where
  st : ∀ a o, H0 a = some o → a ∉ wd0.B → noTb o → H a = some o
  dm : ∀ a, Nt H a → Nt H0 a
theorem Ord.refl (wd : Wd) (H : Hp) : Ord wd wd H := ⟨Le.refl _, fun _ _ h => .inl h, fun _ h => .inl h⟩
theorem Keep.refl (wd : Wd) (H : Hp) : Keep wd H H := ⟨fun _ _ h _ _ => h, fun _ h => h⟩
theorem Ord.trans {a b c : Wd} {H0 H1 : Hp} (x : Ord a b H0) (y : Ord b c H1) (k : Keep a H0 H1) : Ord a c H0 :=
  ⟨x.le.trans y.le, fun p o h => (y.fm p o h).elim (x.fm p o) (fun z => .inr (z.elim (fun z => .inl (k.dm p z)) .inr)), fun p h => (y.fb p h).elim (x.fb p) (fun z => .inr (k.dm p z))⟩
theorem Keep.trans {a b : Wd} {H0 H1 H2 : Hp} (k : Keep a H0 H1) (x : Ord a b H0) (l : Keep b H1 H2) : Keep a H0 H2 :=
  ⟨fun p o h n t => l.st p o (k.st p o h n t) (fun hb => (x.fb p hb).elim n (fun z => z.no h t)) t, fun p h => k.dm p (l.dm p h)⟩
inductive Grow : Wd → Hp → Wd → Hp → Prop
  | refl (wd : Wd) (H : Hp) : Grow wd H wd H
  | add {wd wd1 : Wd} {H H1 : Hp} {p : Addr} {o : HO} : Grow wd H wd1 H1 → H1 p = none → noTb o → Sized o → Grow wd H (wd1.add p o) (upd H1 p o)
theorem Grow.one {wd : Wd} {H : Hp} {p : Addr} {o : HO} (h : H p = none) (t : noTb o) (z : Sized o) : Grow wd H (wd.add p o) (upd H p o) := .add (.refl _ _) h t z
theorem Grow.trans {wd wd1 wd2 : Wd} {H H1 H2 : Hp} (a : Grow wd H wd1 H1) (b : Grow wd1 H1 wd2 H2) : Grow wd H wd2 H2 := by
  induction b with
  | refl => exact a
  | add g h t z ih => exact .add (ih a) h t z
theorem noTb_lst {xs : List V} : noTb (.lst xs) := fun _ h => nomatch h
theorem noTb_tup {xs : List V} : noTb (.tup xs) := fun _ h => nomatch h
section
variable {T : List (Addr × Str)}
theorem siz_upd {H : Hp} {p : Addr} {o : HO} (h : ∀ a o, H a = some o → SizedH o) (z : Sized o) : ∀ a u, upd H p o a = some u → SizedH u := fun a u e => by
  by_cases ha : a = p
  · subst ha
    rw [upd_same] at e
    cases e
    exact z.h
  · rw [upd_ne ha] at e
    exact h a u e
theorem Good.add {wd : Wd} {H : Hp} {p : Addr} {o : HO} (g : Good T wd H) (h : H p = none) (t : noTb o) (z : Sized o) : Good T (wd.add p o) (upd H p o) := by
  have hm : wd.M p = none := by
    cases e : wd.M p with
    | none => rfl
    | some u =>
      have := g.sub p u e
      rw [h] at this
      cases this
  refine ⟨fun a u e => ?_, fun a u e => ?_, fun b hb => ?_, g.tab.ext fun b u e => ?_, siz_upd g.siz z⟩
  · by_cases ha : a = p
    · subst ha
      have e' : upd wd.M a o a = some u := e
      rw [upd_same] at e' ⊢
      exact e'
    · have e' : upd wd.M p o a = some u := e
      rw [upd_ne ha] at e' ⊢
      exact g.sub a u e'
  · by_cases ha : a = p
    · subst ha
      have e' : upd wd.M a o a = some u := e
      rw [upd_same] at e'
      cases e'
      exact ⟨t, z⟩
    · have e' : upd wd.M p o a = some u := e
      rw [upd_ne ha] at e'
      exact g.ntb a u e'
  · obtain ⟨h1, gg, s, c, h2, h3⟩ := g.box b hb
    have hbp : b ≠ p := ne_of_none h2 h
    refine ⟨?_, gg, s, c, ?_, h3⟩
    · show upd wd.M p o b = none
      rw [upd_ne hbp]
      exact h1
    · rw [upd_ne hbp]
      exact h2
  · rw [upd_ne (ne_of_none e h)]
    exact e
theorem Good.mnone {wd : Wd} {H : Hp} {p : Addr} (g : Good T wd H) (h : H p = none) : wd.M p = none := by
  cases e : wd.M p with
  | none => rfl
  | some u =>
    have := g.sub p u e
    rw [h] at this
    cases this
theorem Keep.add {wd : Wd} {H : Hp} {p : Addr} {o : HO} (h : H p = none) : Keep wd H (upd H p o) := by
  refine ⟨fun a u e _ _ => ?_, fun a e => ?_⟩
  · rw [upd_ne (ne_of_none e h)]
    exact e
  · by_cases ha : a = p
    · subst ha
      exact Nt.of h
    · exact e.upd ha
theorem Ord.add {wd : Wd} {H : Hp} {p : Addr} {o : HO} (g : Good T wd H) (h : H p = none) : Ord wd (wd.add p o) H := by
  refine ⟨Le.add (g.mnone h), fun a u e => ?_, fun b hb => .inl hb⟩
  by_cases ha : a = p
  · subst ha
    exact .inr (.inl (Nt.of h))
  · have e' : upd wd.M p o a = some u := e
    rw [upd_ne ha] at e'
    exact .inl e'
theorem Grow.all {wd wd' : Wd} {H H' : Hp} (g : Grow wd H wd' H') (o : Good T wd H) : Good T wd' H' ∧ Ord wd wd' H ∧ Keep wd H H' := by
  induction g with
  | refl => exact ⟨o, Ord.refl _ _, Keep.refl _ _⟩
  | add g h t z ih =>
    obtain ⟨a, b, c⟩ := ih o
    exact ⟨a.add h t z, b.trans (Ord.add a h) c, c.trans b (Keep.add h)⟩
end

inductive DK (α : Type) where
  | s (l : List (Key × α))
  | t (l : List (List Key × α))
def DK.vals {α : Type} : DK α → List α
  | .s l => l.map (·.2)
  | .t l => l.map (·.2)
def DK.same {α β : Type} : DK α → DK β → Prop
  | .s a, .s b => a.map (·.1) = b.map (·.1)
  | .t a, .t b => a.map (·.1) = b.map (·.1)
  | _, _ => False
def DK.cell : DK V → HO
  | .s l => .dK l
  | .t l => .dT l
inductive Sl where
  | d (x : D)
  | own (xs : List D)
  | obj (p : Addr) (C : Str) (fs : List (Str × D))
  | cels (cs : List (Addr × List D))
  | dct (lk : Option Obj) (kvs : DK D)
def lkO (lk : Option Obj) (u : HO) : HO := match lk with
  | none => u
  | some o => .frz o u
abbrev PEnv := List (Option Sl)
structure Ctx where
  wd : Wd
  H : Hp
  pn : List (Addr × List V) := []
def NoCel (env : PEnv) (p : Addr) : Prop := ∀ (i : Nat) (cs : List (Addr × List D)), env[i]? = some (some (Sl.cels cs)) → ∀ q ∈ cs, q.1 ≠ p
structure NoOwn (env : PEnv) (σ : L2.St) (p : Addr) : Prop where
  o : ∀ (i : Nat) (xs : List D), env[i]? = some (some (Sl.own xs)) → σ[i]? ≠ some (some (V.ref p))
  c : NoCel env p
structure Ext (K : PySem.W.Frag) (c : Ctx) (wd : Wd) (env : PEnv) (σ : L2.St) (H : Hp) : Prop where
  obj : ∀ (i : Nat) (p : Addr) (C : Str) (fs : List (Str × D)), env[i]? = some (some (Sl.obj p C fs)) → ∃ (dx : Addr) (vs : List (Str × V)), σ[i]? = some (some (V.ref p)) ∧ H p = some (.ins (He.ga K C) dx vs) ∧ wd.M p = none ∧ Nt c.H p ∧ vs.map (·.1) = fs.map (·.1) ∧ Reps K wd (vs.map (·.2)) (fs.map (·.2))
  ob1 : ∀ (i j : Nat) (p p' : Addr) (C C' : Str) (fs gs : List (Str × D)), env[i]? = some (some (Sl.obj p C fs)) → env[j]? = some (some (Sl.obj p' C' gs)) → i = j
  cel : ∀ (i : Nat) (cs : List (Addr × List D)), env[i]? = some (some (Sl.cels cs)) → ∀ q ∈ cs, (∃ vs, H q.1 = some (.lst vs) ∧ Reps K wd vs q.2) ∧ wd.M q.1 = none ∧ q.1 ∉ wd.B ∧ Nt c.H q.1 ∧ ∀ (j : Nat) (ys : List D), env[j]? = some (some (Sl.own ys)) → σ[j]? ≠ some (some (V.ref q.1))
  cnd : ∀ (i : Nat) (cs : List (Addr × List D)), env[i]? = some (some (Sl.cels cs)) → (cs.map (·.1)).Nodup
  ce1 : ∀ (i j : Nat) (cs ds : List (Addr × List D)), env[i]? = some (some (Sl.cels cs)) → env[j]? = some (some (Sl.cels ds)) → i ≠ j → ∀ q ∈ cs, ∀ q' ∈ ds, q.1 ≠ q'.1
  dct : ∀ (i : Nat) (lk : Option Obj) (kvs : DK D), env[i]? = some (some (Sl.dct lk kvs)) → ∃ (p : Addr) (vs : DK V), σ[i]? = some (some (V.ref p)) ∧ H p = some (lkO lk vs.cell) ∧ wd.M p = none ∧ Nt c.H p ∧ vs.same kvs ∧ Reps K wd vs.vals kvs.vals
  dc1 : ∀ (i j : Nat) (lk lk' : Option Obj) (ks ls : DK D) (p : Addr), env[i]? = some (some (Sl.dct lk ks)) → env[j]? = some (some (Sl.dct lk' ls)) → σ[i]? = some (some (V.ref p)) → σ[j]? = some (some (V.ref p)) → i = j
section
variable (K : PySem.W.Frag) (T : List (Addr × Str))
structure Rel (c : Ctx) (wd : Wd) (env : PEnv) (σ : L2.St) (H : Hp) : Prop where
  ord : Ord c.wd wd c.H
  good : Good T wd H
  keep : Keep c.wd c.H H
  len : env.length = σ.length
  dat : ∀ (i : Nat) (x : D), env[i]? = some (some (Sl.d x)) → ∃ v : V, σ[i]? = some (some v) ∧ Rep K wd v x
  own : ∀ (i : Nat) (xs : List D), env[i]? = some (some (Sl.own xs)) → ∃ (p : Addr) (vs : List V), σ[i]? = some (some (V.ref p)) ∧ H p = some (.lst vs) ∧ wd.M p = none ∧ p ∉ wd.B ∧ Nt c.H p ∧ Reps K wd vs xs
  sep : ∀ (i j : Nat) (xs ys : List D) (p : Addr), env[i]? = some (some (Sl.own xs)) → env[j]? = some (some (Sl.own ys)) → σ[i]? = some (some (V.ref p)) → σ[j]? = some (some (V.ref p)) → i = j
  pin : ∀ q ∈ c.pn, H q.1 = some (.lst q.2) ∧ wd.M q.1 = none ∧ q.1 ∉ wd.B ∧ NoOwn env σ q.1
  ext : Ext K c wd env σ H
end
theorem Ord.mnone {T : List (Addr × Str)} {wd wd' : Wd} {H H' : Hp} {p : Addr} {u : HO} (o : Ord wd wd' H) (h : wd.M p = none) (e : H p = some u) (t : noTb u) (g' : Good T wd' H') (e' : H' p = some u) (nt : ∀ vs, u ≠ .tup vs) : wd'.M p = none := by
  cases q : wd'.M p with
  | none => rfl
  | some u' =>
    rcases o.fm p u' q with z | z | ⟨vs, rfl⟩
    · rw [h] at z; cases z
    · exact (z.no e t).elim
    · have := g'.sub p _ q
      rw [e'] at this
      exact absurd (Option.some.inj this) (nt vs)
theorem Ord.bnone {wd wd' : Wd} {H : Hp} {p : Addr} {u : HO} (o : Ord wd wd' H) (h : p ∉ wd.B) (e : H p = some u) (t : noTb u) : p ∉ wd'.B := fun hb => by
  rcases o.fb p hb with z | z
  · exact h z
  · exact z.no e t
section
variable {K : PySem.W.Frag} {T : List (Addr × Str)} {c : Ctx} {wd wd' : Wd} {env env' : PEnv} {σ σ' : L2.St} {H H' : Hp}
theorem noTb_ins {C dx : Addr} {fs : List (Str × V)} : noTb (.ins C dx fs) := fun _ h => nomatch h
theorem Good.insB (g : Good T wd H) {p C dx : Addr} {fs : List (Str × V)} (h : H p = some (.ins C dx fs)) : p ∉ wd.B := fun z => by
  obtain ⟨_, _, _, _, e, _⟩ := g.box p z
  rw [h] at e
  cases e
theorem noTb_lk {lk : Option Obj} {kvs : DK V} : noTb (lkO lk kvs.cell) := by
  cases lk <;> cases kvs <;> exact fun _ h => nomatch h
theorem lk_lst {lk : Option Obj} {kvs : DK V} {vs : List V} (h : some (HO.lst vs) = some (lkO lk kvs.cell)) : False := by
  cases lk <;> cases kvs <;> cases h
theorem lk_tup {lk : Option Obj} {kvs : DK V} {vs : List V} (h : some (HO.tup vs) = some (lkO lk kvs.cell)) : False := by
  cases lk <;> cases kvs <;> cases h
theorem lk_ins {lk : Option Obj} {kvs : DK V} {C dx : Addr} {vs : List (Str × V)} (h : some (HO.ins C dx vs) = some (lkO lk kvs.cell)) : False := by
  cases lk <;> cases kvs <;> cases h
theorem Good.dctB (g : Good T wd H) {p : Addr} {lk : Option Obj} {kvs : DK V} (h : H p = some (lkO lk kvs.cell)) : p ∉ wd.B := fun z => by
  obtain ⟨_, _, _, _, e, _⟩ := g.box p z
  rw [h] at e
  exact lk_lst e.symm
theorem noTup_lst {xs vs : List V} : HO.lst xs ≠ .tup vs := fun h => nomatch h
theorem noTup_lk {lk : Option Obj} {kvs : DK V} {vs : List V} : lkO lk kvs.cell ≠ .tup vs := by
  cases lk <;> cases kvs <;> exact fun h => nomatch h
theorem Ext.go (x : Ext K c wd env σ H) (g : Good T wd H) (o : Ord wd wd' H) (g' : Good T wd' H') (k : Keep wd H H') : Ext K c wd' env σ H' := by
  refine ⟨fun i p0 C fs e => ?_, x.ob1, fun i cs e q hq => ?_, x.cnd, x.ce1, fun i lk kvs e => ?_, x.dc1⟩
  · obtain ⟨dx, vs, h1, h2, h3, h4, h5, h6⟩ := x.obj i p0 C fs e
    exact ⟨dx, vs, h1, k.st p0 _ h2 (g.insB h2) noTb_ins, o.mnone h3 h2 noTb_ins g' (k.st p0 _ h2 (g.insB h2) noTb_ins) (fun _ z => nomatch z), h4, h5, h6.mono o.le⟩
  · obtain ⟨⟨vs, h1, h2⟩, h3, h4, h5, h6⟩ := x.cel i cs e q hq
    exact ⟨⟨vs, k.st _ _ h1 h4 noTb_lst, h2.mono o.le⟩, o.mnone h3 h1 noTb_lst g' (k.st _ _ h1 h4 noTb_lst) (fun _ => noTup_lst), o.bnone h4 h1 noTb_lst, h5, h6⟩
  · obtain ⟨p, vs, h1, h2, h3, h4, h5, h6⟩ := x.dct i lk kvs e
    exact ⟨p, vs, h1, k.st p _ h2 (g.dctB h2) noTb_lk, o.mnone h3 h2 noTb_lk g' (k.st p _ h2 (g.dctB h2) noTb_lk) (fun _ => noTup_lk), h4, h5, h6.mono o.le⟩
theorem Ext.sl (x : Ext K c wd env σ H) (hs : ∀ (i : Nat) (s : Sl), env'[i]? = some (some s) → (∀ d, s ≠ .d d) → (∀ ys, s ≠ .own ys) → env[i]? = some (some s) ∧ σ'[i]? = σ[i]?)
    (ho : ∀ (j : Nat) (ys : List D), env'[j]? = some (some (.own ys)) → (∃ ys', env[j]? = some (some (.own ys')) ∧ σ'[j]? = σ[j]?) ∨ ∃ p, σ'[j]? = some (some (.ref p)) ∧ NoCel env p) : Ext K c wd env' σ' H := by
  have ob : ∀ {i : Nat} {p : Addr} {C : Str} {fs : List (Str × D)}, env'[i]? = some (some (Sl.obj p C fs)) → env[i]? = some (some (Sl.obj p C fs)) ∧ σ'[i]? = σ[i]? := fun {i p C fs} e => hs i _ e (fun _ z => nomatch z) (fun _ z => nomatch z)
  have ce : ∀ {i : Nat} {cs : List (Addr × List D)}, env'[i]? = some (some (Sl.cels cs)) → env[i]? = some (some (Sl.cels cs)) ∧ σ'[i]? = σ[i]? := fun {i cs} e => hs i _ e (fun _ z => nomatch z) (fun _ z => nomatch z)
  have dc : ∀ {i : Nat} {lk : Option Obj} {kvs : DK D}, env'[i]? = some (some (Sl.dct lk kvs)) → env[i]? = some (some (Sl.dct lk kvs)) ∧ σ'[i]? = σ[i]? := fun {i lk kvs} e => hs i _ e (fun _ z => nomatch z) (fun _ z => nomatch z)
  refine ⟨fun i p0 C fs e => ?_, fun i j p p' C C' fs gs e1 e2 => x.ob1 i j p p' C C' fs gs (ob e1).1 (ob e2).1, fun i cs e q hq => ?_, fun i cs e => x.cnd i cs (ce e).1, fun i j cs ds e1 e2 => x.ce1 i j cs ds (ce e1).1 (ce e2).1, fun i lk kvs e => ?_, fun i j lk lk' ks ls p e1 e2 e3 e4 => x.dc1 i j lk lk' ks ls p (dc e1).1 (dc e2).1 (by rw [← (dc e1).2]; exact e3) (by rw [← (dc e2).2]; exact e4)⟩
  · obtain ⟨dx, vs, h1, h2⟩ := x.obj i p0 C fs (ob e).1
    exact ⟨dx, vs, by rw [(ob e).2]; exact h1, h2⟩
  · obtain ⟨h1, h3, h4, h5, h6⟩ := x.cel i cs (ce e).1 q hq
    refine ⟨h1, h3, h4, h5, fun j ys e2 => ?_⟩
    rcases ho j ys e2 with ⟨ys', z1, z2⟩ | ⟨p, z1, z2⟩
    · rw [z2]
      exact h6 j ys' z1
    · rw [z1]
      intro z
      have := z2 i cs (ce e).1 q hq
      cases z
      exact this rfl
  · obtain ⟨p, vs, h1, h2⟩ := x.dct i lk kvs (dc e).1
    exact ⟨p, vs, by rw [(dc e).2]; exact h1, h2⟩
theorem upd_none {M : Hp} {p a : Addr} {o : HO} (h : M a = none) (ne : a ≠ p) : upd M p o a = none := by rw [upd_ne ne]; exact h
theorem Ext.addM (x : Ext K c wd env σ H) {p : Addr} {vs : List V} {o : HO} (hm : wd.M p = none) (n : NoCel env p) (h : H p = some (.lst vs)) : Ext K c (wd.add p o) env σ H := by
  have le : Le wd (wd.add p o) := Le.add hm
  refine ⟨fun i p0 C fs e => ?_, x.ob1, fun i cs e q hq => ?_, x.cnd, x.ce1, fun i lk kvs e => ?_, x.dc1⟩
  · obtain ⟨dx, us, h1, h2, h3, h4, h5, h6⟩ := x.obj i p0 C fs e
    refine ⟨dx, us, h1, h2, upd_none h3 (fun z => ?_), h4, h5, h6.mono le⟩
    rw [z, h] at h2
    cases h2
  · obtain ⟨⟨us, h1, h2⟩, h3, h4, h5, h6⟩ := x.cel i cs e q hq
    exact ⟨⟨us, h1, h2.mono le⟩, upd_none h3 (n i cs e q hq), h4, h5, h6⟩
  · obtain ⟨p0, us, h1, h2, h3, h4, h5, h6⟩ := x.dct i lk kvs e
    refine ⟨p0, us, h1, h2, upd_none h3 (fun z => ?_), h4, h5, h6.mono le⟩
    rw [z, h] at h2
    exact lk_lst h2
theorem Ext.updL (x : Ext K c wd env σ H) {p : Addr} {vs : List V} {o : HO} (n : NoCel env p) (h : H p = some (.lst vs)) : Ext K c wd env σ (upd H p o) := by
  refine ⟨fun i p0 C fs e => ?_, x.ob1, fun i cs e q hq => ?_, x.cnd, x.ce1, fun i lk kvs e => ?_, x.dc1⟩
  · obtain ⟨dx, us, h1, h2, h3⟩ := x.obj i p0 C fs e
    refine ⟨dx, us, h1, ?_, h3⟩
    rw [upd_ne (fun z => by rw [z, h] at h2; cases h2)]
    exact h2
  · obtain ⟨⟨us, h1, h2⟩, h3⟩ := x.cel i cs e q hq
    exact ⟨⟨us, by rw [upd_ne (n i cs e q hq)]; exact h1, h2⟩, h3⟩
  · obtain ⟨p0, us, h1, h2, h3⟩ := x.dct i lk kvs e
    refine ⟨p0, us, h1, ?_, h3⟩
    rw [upd_ne (fun z => by rw [z, h] at h2; exact lk_lst h2)]
    exact h2
theorem Ext.new (x : Ext K c wd env σ H) {p : Addr} {o : HO} (h : H p = none) : Ext K c wd env σ (upd H p o) := by
  refine ⟨fun i p0 C fs e => ?_, x.ob1, fun i cs e q hq => ?_, x.cnd, x.ce1, fun i lk kvs e => ?_, x.dc1⟩
  · obtain ⟨dx, us, h1, h2, h3⟩ := x.obj i p0 C fs e
    exact ⟨dx, us, h1, by rw [upd_ne (ne_of_none h2 h)]; exact h2, h3⟩
  · obtain ⟨⟨us, h1, h2⟩, h3⟩ := x.cel i cs e q hq
    exact ⟨⟨us, by rw [upd_ne (ne_of_none h1 h)]; exact h1, h2⟩, h3⟩
  · obtain ⟨p0, us, h1, h2, h3⟩ := x.dct i lk kvs e
    exact ⟨p0, us, h1, by rw [upd_ne (ne_of_none h2 h)]; exact h2, h3⟩
theorem Ext.noOwn (x : Ext K c wd env σ H) {i : Nat} {xs : List D} {p : Addr} (e : env[i]? = some (some (Sl.own xs))) (h : σ[i]? = some (some (.ref p))) : NoCel env p := fun j cs ec q hq z =>
  (x.cel j cs ec q hq).2.2.2.2 i xs e (by rw [z]; exact h)
theorem Ext.noNone (x : Ext K c wd env σ H) {p : Addr} (h : H p = none) : NoCel env p := fun j cs ec q hq z => by
  obtain ⟨⟨vs, h1, _⟩, _⟩ := x.cel j cs ec q hq
  rw [z, h] at h1
  cases h1
theorem NoCel.set_d {i : Nat} {s : Sl} {p : Addr} (h : NoCel env p) (hs : ∀ cs, s ≠ .cels cs) : NoCel (env.set i (some s)) p := fun j cs e => by
  by_cases hj : i = j
  · subst hj
    by_cases hl : i < env.length
    · rw [List.getElem?_set_self hl] at e
      cases e
      exact absurd rfl (hs cs)
    · rw [List.set_eq_of_length_le (by omega)] at e
      exact h i cs e
  · rw [List.getElem?_set_ne hj] at e
    exact h j cs e
end
section
variable {K : PySem.W.Frag} {T : List (Addr × Str)} {c : Ctx} {wd wd' : Wd} {env : PEnv} {σ : L2.St} {H H' : Hp}
theorem Rel.go (r : Rel K T c wd env σ H) (o : Ord wd wd' H) (g : Good T wd' H') (k : Keep wd H H') : Rel K T c wd' env σ H' := by
  refine ⟨r.ord.trans o r.keep, g, r.keep.trans r.ord k, r.len, fun i x e => ?_, fun i xs e => ?_, r.sep, fun q hq => ?_, r.ext.go r.good o g k⟩
  · obtain ⟨v, h1, h2⟩ := r.dat i x e
    exact ⟨v, h1, h2.mono o.le⟩
  · obtain ⟨p, vs, h1, h2, h3, h4, h5, h6⟩ := r.own i xs e
    refine ⟨p, vs, h1, k.st p _ h2 h4 noTb_lst, ?_, fun hb => ?_, h5, h6.mono o.le⟩
    · exact o.mnone h3 h2 noTb_lst g (k.st p _ h2 h4 noTb_lst) fun _ => noTup_lst
    · rcases o.fb p hb with z | z
      · exact h4 z
      · exact z.no h2 noTb_lst
  · obtain ⟨h1, h2, h3, h4⟩ := r.pin q hq
    refine ⟨k.st _ _ h1 h3 noTb_lst, ?_, fun hb => ?_, h4⟩
    · exact o.mnone h2 h1 noTb_lst g (k.st _ _ h1 h3 noTb_lst) fun _ => noTup_lst
    · rcases o.fb _ hb with y | y
      · exact h3 y
      · exact y.no h1 noTb_lst
theorem Rel.grow (r : Rel K T c wd env σ H) (g : Grow wd H wd' H') : Rel K T c wd' env σ H' :=
  let ⟨a, b, k⟩ := g.all r.good
  r.go b a k
theorem get_set {α : Type} {l : List α} {i j : Nat} {x y : α} (h : (l.set i x)[j]? = some y) : (i = j ∧ x = y ∧ i < l.length) ∨ (i ≠ j ∧ l[j]? = some y) := by
  by_cases e : i = j
  · subst e
    by_cases hl : i < l.length
    · rw [List.getElem?_set_self hl] at h
      exact .inl ⟨rfl, Option.some.inj h, hl⟩
    · rw [List.set_eq_of_length_le (by omega)] at h
      have := (List.getElem?_eq_some_iff.mp h).1
      omega
  · rw [List.getElem?_set_ne e] at h
    exact .inr ⟨e, h⟩
theorem Rel.set (r : Rel K T c wd env σ H) {i : Nat} {v : V} {x : D} (h : Rep K wd v x) : Rel K T c wd (env.set i (some (.d x))) (σ.set i (some v)) H := by
  refine ⟨r.ord, r.good, r.keep, by simp [r.len], fun j y e => ?_, fun j ys e => ?_, fun j k xs ys p e1 e2 e3 e4 => ?_, fun q hq => ?_, r.ext.sl (fun j s e n1 n2 => ?_) fun j ys e => ?_⟩
  · rcases get_set e with ⟨rfl, e, hl⟩ | ⟨ne, e⟩
    · cases e
      rw [r.len] at hl
      exact ⟨v, List.getElem?_set_self hl, h⟩
    · obtain ⟨w, h1, h2⟩ := r.dat j y e
      exact ⟨w, by rw [List.getElem?_set_ne ne]; exact h1, h2⟩
  · rcases get_set e with ⟨rfl, e, hl⟩ | ⟨ne, e⟩
    · cases e
    · obtain ⟨p, vs, h1, h2⟩ := r.own j ys e
      exact ⟨p, vs, by rw [List.getElem?_set_ne ne]; exact h1, h2⟩
  · rcases get_set e1 with ⟨rfl, e, hl⟩ | ⟨ne1, e1⟩
    · cases e
    · rcases get_set e2 with ⟨rfl, e, hl⟩ | ⟨ne2, e2⟩
      · cases e
      · rw [List.getElem?_set_ne ne1] at e3
        rw [List.getElem?_set_ne ne2] at e4
        exact r.sep j k xs ys p e1 e2 e3 e4
  · obtain ⟨h1, h2, h3, h4⟩ := r.pin q hq
    refine ⟨h1, h2, h3, fun j ys e => ?_, h4.c.set_d fun _ z => nomatch z⟩
    rcases get_set e with ⟨rfl, e, hl⟩ | ⟨ne, e⟩
    · cases e
    · rw [List.getElem?_set_ne ne]
      exact h4.o j ys e
  · rcases get_set e with ⟨rfl, e, hl⟩ | ⟨ne, e⟩
    · cases e
      exact absurd rfl (n1 x)
    · exact ⟨e, List.getElem?_set_ne ne⟩
  · rcases get_set e with ⟨rfl, e, hl⟩ | ⟨ne, e⟩
    · cases e
    · exact .inl ⟨ys, e, List.getElem?_set_ne ne⟩
theorem Rel.freeze (r : Rel K T c wd env σ H) {i : Nat} {xs : List D} (e : env[i]? = some (some (Sl.own xs))) :
    ∃ (p : Addr) (vs : List V), σ[i]? = some (some (V.ref p)) ∧ H p = some (.lst vs) ∧ Le wd (wd.add p (.lst vs)) ∧ Rel K T c (wd.add p (.lst vs)) (env.set i (some (.d (.lst xs)))) σ H ∧ Rep K (wd.add p (.lst vs)) (.ref p) (.lst xs) := by
  obtain ⟨p, vs, h1, h2, h3, h4, h5, h6⟩ := r.own i xs e
  have le : Le wd (wd.add p (.lst vs)) := Le.add h3
  have hr : Rep K (wd.add p (.lst vs)) (.ref p) (.lst xs) := .lst upd_same (h6.mono le)
  have hil : i < env.length := (List.getElem?_eq_some_iff.mp e).1
  have gd : Good T (wd.add p (.lst vs)) H := by
    refine ⟨fun a o q => ?_, fun a o q => ?_, fun b hb => ?_, r.good.tab, r.good.siz⟩
    · by_cases ha : a = p
      · subst ha
        have q' : upd wd.M a (.lst vs) a = some o := q
        rw [upd_same] at q'
        cases q'
        exact h2
      · have q' : upd wd.M p (.lst vs) a = some o := q
        rw [upd_ne ha] at q'
        exact r.good.sub a o q'
    · by_cases ha : a = p
      · subst ha
        have q' : upd wd.M a (.lst vs) a = some o := q
        rw [upd_same] at q'
        cases q'
        exact ⟨noTb_lst, r.good.siz _ _ h2⟩
      · have q' : upd wd.M p (.lst vs) a = some o := q
        rw [upd_ne ha] at q'
        exact r.good.ntb a o q'
    · obtain ⟨z1, z2⟩ := r.good.box b hb
      refine ⟨?_, z2⟩
      show upd wd.M p (.lst vs) b = none
      rw [upd_ne (show b ≠ p from fun z => h4 (z ▸ hb))]
      exact z1
  refine ⟨p, vs, h1, h2, le, ⟨⟨r.ord.le.trans le, fun a o q => ?_, r.ord.fb⟩, gd, r.keep, by simp [r.len], fun j y q => ?_, fun j ys q => ?_, fun j l as bs z e1 e2 e3 e4 => ?_, fun q hq => ?_, (r.ext.addM h3 (r.ext.noOwn e h1) h2).sl (fun j s q n1 n2 => ?_) fun j ys q => ?_⟩, hr⟩
  · by_cases ha : a = p
    · subst ha
      exact .inr (.inl h5)
    · have q' : upd wd.M p (.lst vs) a = some o := q
      rw [upd_ne ha] at q'
      exact r.ord.fm a o q'
  · rcases get_set q with ⟨rfl, q, hl⟩ | ⟨ne, q⟩
    · cases q
      exact ⟨.ref p, h1, hr⟩
    · obtain ⟨w, z1, z2⟩ := r.dat j y q
      exact ⟨w, z1, z2.mono le⟩
  · rcases get_set q with ⟨rfl, q, hl⟩ | ⟨ne, q⟩
    · cases q
    · obtain ⟨p2, us, z1, z2, z3, z4, z5, z6⟩ := r.own j ys q
      refine ⟨p2, us, z1, z2, ?_, z4, z5, z6.mono le⟩
      show upd wd.M p (.lst vs) p2 = none
      rw [upd_ne (show p2 ≠ p from fun z => ne (r.sep i j xs ys p2 e q (by rw [z]; exact h1) z1))]
      exact z3
  · rcases get_set e1 with ⟨rfl, q, hl⟩ | ⟨ne1, e1⟩
    · cases q
    · rcases get_set e2 with ⟨rfl, q, hl⟩ | ⟨ne2, e2⟩
      · cases q
      · exact r.sep j l as bs z e1 e2 e3 e4
  · obtain ⟨y1, y2, y3, y4⟩ := r.pin q hq
    refine ⟨y1, ?_, y3, fun j ys z => ?_, y4.c.set_d fun _ z => nomatch z⟩
    · show upd wd.M p (.lst vs) q.1 = none
      rw [upd_ne (show q.1 ≠ p from fun z => y4.o i xs e (by rw [z]; exact h1))]
      exact y2
    · rcases get_set z with ⟨rfl, z, hl⟩ | ⟨ne, z⟩
      · cases z
      · exact y4.o j ys z
  · rcases get_set q with ⟨rfl, q, hl⟩ | ⟨ne, q⟩
    · cases q
      exact absurd rfl (n1 _)
    · exact ⟨q, rfl⟩
  · rcases get_set q with ⟨rfl, q, hl⟩ | ⟨ne, q⟩
    · cases q
    · exact .inl ⟨ys, q, rfl⟩
theorem Rel.mut (r : Rel K T c wd env σ H) {i : Nat} {xs ys : List D} {p : Addr} {us : List V} (e : env[i]? = some (some (Sl.own xs))) (hp : σ[i]? = some (some (V.ref p))) (h : Reps K wd us ys) (hz : us.length ≤ sizeLine) :
    Rel K T c wd (env.set i (some (.own ys))) σ (upd H p (.lst us)) := by
  obtain ⟨p', vs, h1, h2, h3, h4, h5, h6⟩ := r.own i xs e
  rw [h1] at hp
  cases hp
  refine ⟨r.ord, ⟨fun a o q => ?_, r.good.ntb, fun b hb => ?_, fun q hq => ?_, siz_upd r.good.siz hz⟩, ⟨fun a o q n t => ?_, fun a q => ?_⟩, by simp [r.len], fun j y q => ?_, fun j zs q => ?_, fun j l as bs z e1 e2 e3 e4 => ?_, fun q hq => ?_, (r.ext.updL (r.ext.noOwn e h1) h2).sl (fun j s q n1 n2 => ?_) fun j ys q => ?_⟩
  · rw [upd_ne (fun z => by rw [z, h3] at q; cases q)]
    exact r.good.sub a o q
  · obtain ⟨z1, g, s, c', z2, z3⟩ := r.good.box b hb
    exact ⟨z1, g, s, c', by rw [upd_ne (show b ≠ p from fun z => h4 (z ▸ hb))]; exact z2, z3⟩
  · obtain ⟨ps, z1, z2, z3⟩ := r.good.tab q hq
    refine ⟨ps, ?_, z2, fun pos cv hc => ?_⟩
    · rw [upd_ne (fun z => by rw [z, h2] at z1; cases z1)]
      exact z1
    · obtain ⟨a, y1, y2⟩ := z3 pos cv hc
      refine ⟨a, y1, ?_⟩
      rw [upd_ne (fun z => by rw [z, h2] at y2; cases y2)]
      exact y2
  · rw [upd_ne (show a ≠ p from fun z => h5.no (by rw [← z]; exact q) t)]
    exact r.keep.st a o q n t
  · by_cases ha : a = p
    · subst ha
      exact h5
    · exact r.keep.dm a (q.upd ha)
  · rcases get_set q with ⟨rfl, q, hl⟩ | ⟨ne, q⟩
    · cases q
    · exact r.dat j y q
  · rcases get_set q with ⟨rfl, q, hl⟩ | ⟨ne, q⟩
    · cases q
      exact ⟨p, us, h1, upd_same, h3, h4, h5, h⟩
    · obtain ⟨p2, ws, z1, z2, z3⟩ := r.own j zs q
      refine ⟨p2, ws, z1, ?_, z3⟩
      rw [upd_ne (show p2 ≠ p from fun z => ne (r.sep i j xs zs p2 e q (by rw [z]; exact h1) z1))]
      exact z2
  · have own' : ∀ {j : Nat} {as : List D}, (env.set i (some (.own ys)))[j]? = some (some (.own as)) → ∃ as', env[j]? = some (some (.own as')) := fun {j as} q => by
      rcases get_set q with ⟨rfl, q, hl⟩ | ⟨ne, q⟩
      · exact ⟨xs, e⟩
      · exact ⟨as, q⟩
    obtain ⟨as', q1⟩ := own' e1
    obtain ⟨bs', q2⟩ := own' e2
    exact r.sep j l as' bs' z q1 q2 e3 e4
  · obtain ⟨y1, y2, y3, y4⟩ := r.pin q hq
    refine ⟨?_, y2, y3, fun j as z => ?_, y4.c.set_d fun _ z => nomatch z⟩
    · rw [upd_ne (show q.1 ≠ p from fun z => y4.o i xs e (by rw [z]; exact h1))]
      exact y1
    · rcases get_set z with ⟨rfl, z, hl⟩ | ⟨ne, z⟩
      · exact y4.o i xs e
      · exact y4.o j as z
  · rcases get_set q with ⟨rfl, q, hl⟩ | ⟨ne, q⟩
    · cases q
      exact absurd rfl (n2 _)
    · exact ⟨q, rfl⟩
  · rcases get_set q with ⟨rfl, q, hl⟩ | ⟨ne, q⟩
    · exact .inl ⟨xs, e, rfl⟩
    · exact .inl ⟨ys, q, rfl⟩
end
end Pd

namespace Pd
open PySem PySem.Spec PyProof.Rows L2 LamX

def gt : PEnv → Nat → Option Sl
  | [], _ => none
  | x :: _, 0 => x
  | _ :: r, n + 1 => gt r n
theorem gt_eq : ∀ (env : PEnv) (i : Nat) {s : Sl}, gt env i = some s → env[i]? = some (some s)
  | [], _, _, h => by cases h
  | x :: r, 0, _, h => by
    have h' : x = some _ := h
    rw [h']; rfl
  | x :: r, n + 1, _, h => by
    have := gt_eq r n (s := _) h
    simpa using this

@[irreducible] def br (b : Bool) (x y : Prop) : Prop := match b with
  | true => x
  | false => y
theorem br_t {x y : Prop} (h : br true x y) : x := by unfold br at h; exact h
theorem br_f {x y : Prop} (h : br false x y) : y := by unfold br at h; exact h
theorem br_of {b : Bool} {x y : Prop} (h : b = true → x) (g : b = false → y) : br b x y := by
  unfold br
  cases b with
  | true => exact h rfl
  | false => exact g rfl
theorem br_tt {b : Bool} {x y : Prop} (e : b = true) (h : x) : br b x y := br_of (fun _ => h) (fun z => by rw [e] at z; cases z)
theorem br_ff {b : Bool} {x y : Prop} (e : b = false) (h : y) : br b x y := br_of (fun z => by rw [e] at z; cases z) (fun _ => h)
theorem br_if {p : Prop} [Decidable p] {x y : Prop} (h : p → x) (g : ¬ p → y) : br (decide p) x y := br_of (fun z => h (of_decide_eq_true z)) (fun z => g (of_decide_eq_false z))
theorem br_no {b : Bool} {x y : Prop} (h : br b y x) : br (!b) x y := by
  cases b with
  | true => exact br_of (fun z => by cases z) (fun _ => br_t h)
  | false => exact br_of (fun _ => br_f h) (fun z => by cases z)

structure Xc where
  cls : Str
  fs : List (Str × D)
abbrev W (α : Type) := PEnv → (α → PEnv → Prop) → (Xc → Prop) → Prop
def W.ret {α : Type} (a : α) : W α := fun env Q _ => Q a env
def W.bind {α β : Type} (m : W α) (f : α → W β) : W β := fun env Q ex => m env (fun a env' => f a env' Q ex) ex
def W.opt {α : Type} (o : Option α) : W α := fun env Q _ => match o with
  | some a => Q a env
  | none => False
def XRep (K : PySem.W.Frag) (x : Xc) (cl : Value) (dd : Option Addr) (wd : Wd) (H : Hp) : Prop :=
  cl = .ref (He.ga K x.cls) ∧ ((x.fs = [] ∧ dd = none) ∨ ∃ (a : Addr) (vs : List (Str × V)), dd = some a ∧ H a = some (.xd vs) ∧ vs.map (·.1) = x.fs.map (·.1) ∧ Reps K wd (vs.map (·.2)) (x.fs.map (·.2)))
section
variable (K : PySem.W.Frag) (T : List (Addr × Str))
def XOk (c : Ctx) (E : XK) (Ex : Xc → Prop) : Prop :=
  ∀ x, Ex x → ∀ (cl : Value) (dd : Option Addr) (wd' : Wd) (H' : Hp), Ord c.wd wd' c.H → Good T wd' H' → Keep c.wd c.H H' → XRep K x cl dd wd' H' → E cl dd H'
abbrev RR (α β : Type) := Ctx → Wd → PEnv → L2.St → Hp → β → α → Prop
def lift {α β : Type} (R : RR α β) (E : XK) (w : W α) : L2.St → Hp → (β → Hp → Prop) → Prop := fun σ H Q =>
  ∃ (c : Ctx) (wd : Wd) (env : PEnv) (P : α → PEnv → Prop) (Ex : Xc → Prop), Rel K T c wd env σ H ∧ w env P Ex ∧ XOk K T c E Ex ∧
    ∀ a env', P a env' → ∀ (b : β) (wd' : Wd) (H' : Hp), Le wd wd' → Rel K T c wd' env' σ H' → R c wd' env' σ H' b a → Q b H'
def rE : RR D V := fun _ wd _ _ _ v d => Rep K wd v d
def rT : RR Bool Bool := fun _ _ _ _ _ b a => b = a
def rA : RR (List D) (List V) := fun _ wd _ _ _ vs ds => Reps K wd vs ds
def Top (wd : Wd) (H : Hp) (v : V) (d : D) : Prop := Rep K wd v d ∨ ∃ (p : Addr) (vs : List V) (xs : List D), v = .ref p ∧ d = .lst xs ∧ H p = some (.lst vs) ∧ Reps K wd vs xs
def rB : RR D V := fun _ wd _ _ H v d => Top K wd H v d
def rF : RR (List D) V := fun c wd env σ H v xs => ∃ (p : Addr) (vs : List V), v = .ref p ∧ H p = some (.lst vs) ∧ wd.M p = none ∧ p ∉ wd.B ∧ Nt c.H p ∧ Reps K wd vs xs ∧
  NoOwn env σ p ∧ ∀ q ∈ c.pn, q.1 ≠ p
end
abbrev JE (T : List (Addr × Str)) (X : Cx) (E : XK) (e : Expr) (w : W D) : Prop := PE X e (lift X.K T (rE X.K) E w)
abbrev JB (T : List (Addr × Str)) (X : Cx) (E : XK) (e : Expr) (w : W D) : Prop := PE X e (lift X.K T (rB X.K) E w)
abbrev JF (T : List (Addr × Str)) (X : Cx) (E : XK) (e : Expr) (w : W (List D)) : Prop := PE X e (lift X.K T (rF X.K) E w)
abbrev JT (T : List (Addr × Str)) (X : Cx) (E : XK) (e : Expr) (w : W Bool) : Prop := PT X e (lift X.K T rT E w)
abbrev JW (T : List (Addr × Str)) (X : Cx) (E : XK) (e : Expr) (w : W Bool) : Prop := PW X e (lift X.K T rT E w)
abbrev JA (T : List (Addr × Str)) (X : Cx) (E : XK) (es : List Expr) (w : W (List D)) : Prop := PA X es (lift X.K T (rA X.K) E w)

section
variable {X : Cx} {T : List (Addr × Str)} {E : XK}
theorem peI {e : Expr} {t t' : TE} (h : PE X e t) (i : ∀ σ H Q, t' σ H Q → t σ H Q) : PE X e t' := ⟨fun pins s σ H Q I q => h.run pins s σ H Q I (i σ H Q q)⟩
theorem ptI {e : Expr} {t t' : TT} (h : PT X e t) (i : ∀ σ H Q, t' σ H Q → t σ H Q) : PT X e t' := ⟨fun pins s σ H Q I q => h.run pins s σ H Q I (i σ H Q q)⟩
theorem pwI {e : Expr} {t t' : TT} (h : PW X e t) (i : ∀ σ H Q, t' σ H Q → t σ H Q) : PW X e t' := ⟨fun whole pins s σ H Q I q => h.run whole pins s σ H Q I (i σ H Q q)⟩
theorem paI {es : List Expr} {t t' : TA} (h : PA X es t) (i : ∀ σ H Q, t' σ H Q → t σ H Q) : PA X es t' := ⟨fun pos pins s σ H Q I q => h.run pos pins s σ H Q I (i σ H Q q)⟩

def wVar (i : Nat) : W D := fun env Q _ => match gt env i with
  | some (.d x) => Q x env
  | _ => False
def wFrz (i : Nat) : W D := fun env Q _ => match gt env i with
  | some (.own xs) => Q (.lst xs) (env.set i (some (.d (.lst xs))))
  | _ => False
def wOwn (i : Nat) : W D := fun env Q _ => match gt env i with
  | some (.own xs) => Q (.lst xs) env
  | _ => False
theorem wVar_inv {i : Nat} {env : PEnv} {Q : D → PEnv → Prop} {ex : Xc → Prop} (h : wVar i env Q ex) : ∃ x, gt env i = some (.d x) ∧ Q x env := by
  unfold wVar at h
  split at h
  · exact ⟨_, by assumption, h⟩
  · exact h.elim
theorem wFrz_inv {i : Nat} {env : PEnv} {Q : D → PEnv → Prop} {ex : Xc → Prop} (h : wFrz i env Q ex) : ∃ xs, gt env i = some (.own xs) ∧ Q (.lst xs) (env.set i (some (.d (.lst xs)))) := by
  unfold wFrz at h
  split at h
  · exact ⟨_, by assumption, h⟩
  · exact h.elim
theorem wOwn_inv {i : Nat} {env : PEnv} {Q : D → PEnv → Prop} {ex : Xc → Prop} (h : wOwn i env Q ex) : ∃ xs, gt env i = some (.own xs) ∧ Q (.lst xs) env := by
  unfold wOwn at h
  split at h
  · exact ⟨_, by assumption, h⟩
  · exact h.elim
section
variable {x : Str} {pos : Pos}
theorem je_var (i : Nat) (hN : X.N[i]? = some x := by rfl) (hv : Vis X.env.scope x := by first | exact Or.inl rfl | exact Or.inr (Or.inl rfl) | exact Or.inr (Or.inr rfl)) (hd : (x == ("__debug__" : Str)) = false := by decide)
    (hcd : (x == ("__classdict__" : Str)) = false := by decide) : JE T X E (.Name x pos) (wVar i) :=
  peI (pe_var hN hv hd hcd) fun σ H Q ⟨c, wd, env, P, Ex, r, h, _, k⟩ => by
    obtain ⟨d, e, h⟩ := wVar_inv h
    obtain ⟨v, e1, rp⟩ := r.dat i d (gt_eq _ _ e)
    exact ⟨v, e1, k d env h v wd H (Le.refl _) r rp⟩
theorem je_frz (i : Nat) (hN : X.N[i]? = some x := by rfl) (hv : Vis X.env.scope x := by first | exact Or.inl rfl | exact Or.inr (Or.inl rfl) | exact Or.inr (Or.inr rfl)) (hd : (x == ("__debug__" : Str)) = false := by decide)
    (hcd : (x == ("__classdict__" : Str)) = false := by decide) : JE T X E (.Name x pos) (wFrz i) :=
  peI (pe_var hN hv hd hcd) fun σ H Q ⟨c, wd, env, P, Ex, r, h, _, k⟩ => by
    obtain ⟨xs, e, h⟩ := wFrz_inv h
    obtain ⟨p, vs, e1, e2, le, r2, rp⟩ := r.freeze (gt_eq _ _ e)
    exact ⟨.ref p, e1, k _ _ h _ _ H le r2 rp⟩
theorem jb_own (i : Nat) (hN : X.N[i]? = some x := by rfl) (hv : Vis X.env.scope x := by first | exact Or.inl rfl | exact Or.inr (Or.inl rfl) | exact Or.inr (Or.inr rfl)) (hd : (x == ("__debug__" : Str)) = false := by decide)
    (hcd : (x == ("__classdict__" : Str)) = false := by decide) : JB T X E (.Name x pos) (wOwn i) :=
  peI (pe_var hN hv hd hcd) fun σ H Q ⟨c, wd, env, P, Ex, r, h, _, k⟩ => by
    obtain ⟨xs, e, h⟩ := wOwn_inv h
    obtain ⟨p, vs, e1, e2, _, _, _, rp⟩ := r.own i xs (gt_eq _ _ e)
    exact ⟨.ref p, e1, k _ _ h _ wd H (Le.refl _) r (.inr ⟨p, vs, xs, rfl, rfl, e2, rp⟩)⟩
end
theorem je_c {e : Expr} {v : V} {d : D} (h : PE X e (tC v)) (hr : ∀ wd, Rep X.K wd v d) : JE T X E e (W.ret d) :=
  peI h fun σ H Q ⟨c, wd, env, P, Ex, r, h, _, k⟩ => k d env h v wd H (Le.refl _) r (hr wd)
theorem je_int {i j pos} : JE T X E (.Constant (.int i) j pos) (W.ret (.int i)) := je_c pe_int fun _ => .int i
theorem je_bl {b j pos} : JE T X E (.Constant (.bool b) j pos) (W.ret (.bl b)) := je_c pe_bl fun _ => .bl b
theorem je_str {x j pos} : JE T X E (.Constant (.str x) j pos) (W.ret (.str x)) := je_c pe_str fun _ => .str x
theorem je_gint {x : Str} {pos : Pos} {i : Int} (hg : Gl X x) (hm : ∃ t, X.mg x = some (.int i t)) (hd : (x == ("__debug__" : Str)) = false := by decide) : JE T X E (.Name x pos) (W.ret (.int i)) := by
  obtain ⟨t, hm⟩ := hm
  exact je_c (v := .int i) (pe_glob hg hm ⟨t, rfl⟩ hd) fun _ => .int i
theorem je_gstr {x z : Str} {pos : Pos} (hg : Gl X x) (hm : ∃ t, X.mg x = some (.str z t)) (hd : (x == ("__debug__" : Str)) = false := by decide) : JE T X E (.Name x pos) (W.ret (.str z)) := by
  obtain ⟨t, hm⟩ := hm
  exact je_c (v := .str z) (pe_glob hg hm ⟨t, rfl⟩ hd) fun _ => .str z
theorem je_b {e : Expr} {w : W D} (h : JE T X E e w) : JB T X E e w :=
  peI h fun σ H Q ⟨c, wd, env, P, Ex, r, h, xo, k⟩ => ⟨c, wd, env, P, Ex, r, h, xo, fun a env' p b wd' H' le r' rp => k a env' p b wd' H' le r' (.inl rp)⟩
def wLst (w : W (List D)) : W D := w.bind fun xs => .ret (.lst xs)
theorem jf_e {e : Expr} {w : W (List D)} (h : JF T X E e w) : JE T X E e (wLst w) :=
  peI h fun σ H Q ⟨c, wd, env, P, Ex, r, h, xo, k⟩ => ⟨c, wd, env, fun xs env' => P (.lst xs) env', Ex, r, h, xo, fun xs env' p b wd' H' le r' rp => by
    obtain ⟨q, vs, rfl, h1, h2, h3, h4, h5, h6, h7⟩ := rp
    have le' : Le wd' (wd'.add q (.lst vs)) := Le.add h2
    refine k _ env' p (.ref q) (wd'.add q (.lst vs)) H' (le.trans le') ?_ (.lst upd_same (h5.mono le'))
    have uq : ∀ {a : Addr} {o : HO}, (wd'.add q (.lst vs)).M a = some o → (a = q ∧ o = .lst vs) ∨ wd'.M a = some o := fun {a o} z => by
      by_cases ha : a = q
      · subst ha
        have z' : upd wd'.M a (.lst vs) a = some o := z
        rw [upd_same] at z'
        cases z'
        exact .inl ⟨rfl, rfl⟩
      · have z' : upd wd'.M q (.lst vs) a = some o := z
        rw [upd_ne ha] at z'
        exact .inr z'
    refine ⟨⟨r'.ord.le.trans le', fun a o z => ?_, r'.ord.fb⟩, ⟨fun a o z => ?_, fun a o z => ?_, fun b hb => ?_, r'.good.tab, r'.good.siz⟩, r'.keep, r'.len, fun i d z => ?_, fun i ys z => ?_, r'.sep, fun qq hq => ?_, r'.ext.addM h2 h6.c h1⟩
    · rcases uq z with ⟨rfl, rfl⟩ | z
      · exact .inr (.inl h4)
      · exact r'.ord.fm a o z
    · rcases uq z with ⟨rfl, rfl⟩ | z
      · exact h1
      · exact r'.good.sub a o z
    · rcases uq z with ⟨rfl, rfl⟩ | z
      · exact ⟨noTb_lst, r'.good.siz _ _ h1⟩
      · exact r'.good.ntb a o z
    · obtain ⟨z1, z2⟩ := r'.good.box b hb
      refine ⟨?_, z2⟩
      show upd wd'.M q (.lst vs) b = none
      rw [upd_ne (show b ≠ q from fun z => h3 (z ▸ hb))]
      exact z1
    · obtain ⟨v, y1, y2⟩ := r'.dat i d z
      exact ⟨v, y1, y2.mono le'⟩
    · obtain ⟨p2, us, y1, y2, y3, y4, y5, y6⟩ := r'.own i ys z
      refine ⟨p2, us, y1, y2, ?_, y4, y5, y6.mono le'⟩
      show upd wd'.M q (.lst vs) p2 = none
      rw [upd_ne (show p2 ≠ q from fun zz => h6.o i ys z (by rw [← zz]; exact y1))]
      exact y3
    · obtain ⟨y1, y2, y3, y4⟩ := r'.pin qq hq
      refine ⟨y1, ?_, y3, y4⟩
      show upd wd'.M q (.lst vs) qq.1 = none
      rw [upd_ne (show qq.1 ≠ q from fun zz => h7 qq hq zz)]
      exact y2⟩
theorem Rel.fresh {K : PySem.W.Frag} {c : Ctx} {wd : Wd} {env : PEnv} {σ : L2.St} {H : Hp} (r : Rel K T c wd env σ H) {p : Addr} {vs : List V} {xs : List D} (hp : H p = none) (h : Reps K wd vs xs) (hz : vs.length ≤ sizeLine) :
    Rel K T c wd env σ (upd H p (.lst vs)) ∧ rF K c wd env σ (upd H p (.lst vs)) (.ref p) xs := by
  have hm := r.good.mnone hp
  have hb : p ∉ wd.B := fun z => by
    obtain ⟨_, g, s, c', e, _⟩ := r.good.box p z
    rw [hp] at e
    cases e
  have gd : Good T wd (upd H p (.lst vs)) := by
    refine ⟨fun a o e => ?_, r.good.ntb, fun b hb => ?_, r.good.tab.ext fun b u e => ?_, siz_upd r.good.siz hz⟩
    · have := r.good.sub a o e
      rw [upd_ne (ne_of_none this hp)]
      exact this
    · obtain ⟨h1, g, s, c', h2, h3⟩ := r.good.box b hb
      exact ⟨h1, g, s, c', by rw [upd_ne (ne_of_none h2 hp)]; exact h2, h3⟩
    · rw [upd_ne (ne_of_none e hp)]
      exact e
  refine ⟨r.go (Ord.refl _ _) gd (Keep.add hp), p, vs, rfl, upd_same, hm, hb, r.keep.dm p (Nt.of hp), h, ⟨fun i ys e z => ?_, r.ext.noNone hp⟩, fun q hq z => ?_⟩
  · obtain ⟨q, us, h1, h2, _⟩ := r.own i ys e
    rw [h1] at z
    cases z
    rw [hp] at h2
    cases h2
  · have := (r.pin q hq).1
    rw [z, hp] at this
    cases this

def wNil : W (List D) := .ret []
def wCons (a : W D) (r : W (List D)) : W (List D) := a.bind fun x => r.bind fun xs => .ret (x :: xs)
theorem ja_nil : JA T X E [] wNil := paI pa_nil fun σ H Q ⟨c, wd, env, P, Ex, r, h, _, k⟩ => k [] env h [] wd H (Le.refl _) r .nil
theorem ja_cons {e : Expr} {es : List Expr} {a : W D} {w : W (List D)} (ha : JE T X E e a) (hr : JA T X E es w) (hs : starEach (e :: es) X.env = (false, eval e X.env) :: starEach es X.env := by rfl) : JA T X E (e :: es) (wCons a w) :=
  paI (pa_cons ha hr hs) fun σ H Q ⟨c, wd, env, P, Ex, r, h, xo, k⟩ =>
    ⟨c, wd, env, _, Ex, r, h, xo, fun x env1 h1 v wd1 H1 le1 r1 rp1 => ⟨c, wd1, env1, _, Ex, r1, h1, xo, fun xs env2 h2 vs wd2 H2 le2 r2 rp2 => k _ env2 h2 (v :: vs) wd2 H2 (le1.trans le2) r2 (.cons (rp1.mono le2) rp2)⟩⟩
def wTup (w : W (List D)) : W D := w.bind fun xs env Q _ => xs.length ≤ 1000000 ∧ Q (.tup xs) env
theorem sz6 {n : Nat} (h : n ≤ 1000000) : n ≤ sizeLine := Nat.le_trans h (by decide)
theorem je_tup {es : List Expr} {w : W (List D)} {x1} {pos : Pos} (h : JA T X E es w) : JE T X E (.Tuple es x1 pos) (wTup w) :=
  peI (pe_tup h) fun σ H Q ⟨c, wd, env, P, Ex, r, h, xo, k⟩ =>
    ⟨c, wd, env, _, Ex, r, h, xo, fun xs env1 h1 vs wd1 H1 le1 r1 rp1 => by
      have hz : vs.length ≤ sizeLine := by rw [rp1.length]; exact sz6 h1.1
      refine ⟨hz, fun p hp => ?_⟩
      have g : Grow wd1 H1 (wd1.add p (.tup vs)) (upd H1 p (.tup vs)) := Grow.one hp noTb_tup hz
      have le2 : Le wd1 (wd1.add p (.tup vs)) := Le.add (r1.good.mnone hp)
      exact k _ env1 h1.2 (.ref p) _ _ (le1.trans le2) (r1.grow g) (.tup upd_same (rp1.mono le2))⟩
def wSz (w : W (List D)) : W (List D) := w.bind fun xs env Q _ => xs.length ≤ 1000000 ∧ Q xs env
theorem jf_lst {es : List Expr} {w : W (List D)} {pos : Pos} (h : JA T X E es w) : JF T X E (.List es pos) (wSz w) :=
  peI (pe_lst h) fun σ H Q ⟨c, wd, env, P, Ex, r, h, xo, k⟩ =>
    ⟨c, wd, env, _, Ex, r, h, xo, fun xs env1 h1 vs wd1 H1 le1 r1 rp1 => by
      have hz : vs.length ≤ sizeLine := by rw [rp1.length]; exact sz6 h1.1
      refine ⟨hz, fun p hp => ?_⟩
      obtain ⟨r2, f⟩ := r1.fresh hp rp1 hz
      exact k _ env1 h1.2 (.ref p) _ _ le1 r2 f⟩

def Del (K : PySem.W.Frag) (wd : Wd) (H : Hp) (z : D) (Q : VK) : Prop := ∀ w wd' H', Grow wd H wd' H' → Rep K wd' w z → Q w H'
theorem Grow.le {T : List (Addr × Str)} {wd wd' : Wd} {H H' : Hp} (g : Grow wd H wd' H') (o : Good T wd H) : Le wd wd' := (g.all o).2.1.le
theorem Del.now {K : PySem.W.Frag} {wd : Wd} {H : Hp} {z : D} {Q : VK} {w : V} (d : Del K wd H z Q) (r : Rep K wd w z) : Q w H := d w wd H (.refl _ _) r
theorem Del.tup {K : PySem.W.Frag} {wd : Wd} {H : Hp} {xs : List D} {Q : VK} {p : Addr} {vs : List V} (d : Del K wd H (.tup xs) Q) (g : Good T wd H) (hp : H p = none) (r : Reps K wd vs xs) (hz : vs.length ≤ sizeLine) : Q (.ref p) (upd H p (.tup vs)) :=
  d (.ref p) _ _ (Grow.one hp noTb_tup hz) (.tup upd_same (r.mono (Le.add (g.mnone hp))))
theorem Del.lst {K : PySem.W.Frag} {wd : Wd} {H : Hp} {xs : List D} {Q : VK} {p : Addr} {vs : List V} (d : Del K wd H (.lst xs) Q) (g : Good T wd H) (hp : H p = none) (r : Reps K wd vs xs) (hz : vs.length ≤ sizeLine) : Q (.ref p) (upd H p (.lst vs)) :=
  d (.ref p) _ _ (Grow.one hp noTb_lst hz) (.lst upd_same (r.mono (Le.add (g.mnone hp))))
structure OpD (X : Cx) (f : Value → Value → Sem Value) (g : D → D → Option D) : Prop where
  ex : ∃ r : R2, OpR X f r ∧ ∀ (x y z : D), g x y = some z → ∀ (T : List (Addr × Str)) (wd : Wd) (H : Hp) (v u : V) (Q : VK), Good T wd H → Rep X.K wd v x → Rep X.K wd u y → Del X.K wd H z Q → r v u H Q
def wBin (g : D → D → Option D) (a b : W D) : W D := a.bind fun x => b.bind fun y => .opt (g x y)
theorem opt_inv {α : Type} {o : Option α} {env : PEnv} {Q : α → PEnv → Prop} {ex : Xc → Prop} (h : W.opt o env Q ex) : ∃ a, o = some a ∧ Q a env := by
  unfold W.opt at h
  split at h
  · exact ⟨_, rfl, h⟩
  · exact h.elim
theorem lift_bin {K : PySem.W.Frag} {r : R2} {g : D → D → Option D} {a b : W D} {σ : L2.St} {H : Hp} {Q : VK}
    (ho : ∀ (x y z : D), g x y = some z → ∀ (T : List (Addr × Str)) (wd : Wd) (H : Hp) (v u : V) (Q : VK), Good T wd H → Rep K wd v x → Rep K wd u y → Del K wd H z Q → r v u H Q)
    (h : lift K T (rE K) E (wBin g a b) σ H Q) : tOp r (lift K T (rE K) E a) (lift K T (rE K) E b) σ H Q := by
  obtain ⟨c, wd, env, P, Ex, rl, h, xo, k⟩ := h
  refine ⟨c, wd, env, _, Ex, rl, h, xo, fun x env1 h1 v wd1 H1 le1 r1 rp1 => ⟨c, wd1, env1, _, Ex, r1, h1, xo, fun y env2 h2 u wd2 H2 le2 r2 rp2 => ?_⟩⟩
  obtain ⟨z, e, hz⟩ := opt_inv h2
  exact ho x y z e T wd2 H2 v u Q r2.good (Rep.mono le2 rp1) rp2 fun w wd3 H3 g3 rp3 => k z env2 hz w wd3 H3 ((le1.trans le2).trans (g3.le r2.good)) (r2.grow g3) rp3
theorem je_bin {op : Operator} {g : D → D → Option D} {x y : Expr} {a b : W D} {pos : Pos} (ho : OpD X (binaryOp op) g) (ha : JE T X E x a) (hb : JE T X E y b) : JE T X E (.BinOp x op y pos) (wBin g a b) := by
  obtain ⟨r, hr, hq⟩ := ho.ex
  exact peI (pe_op hr ha hb) fun σ H Q h => lift_bin hq h
theorem je_cmp {op : CmpOp} {g : D → D → Option D} {x y : Expr} {a b : W D} {pos : Pos} (ho : OpD X (compareOp op) g) (ha : JE T X E x a) (hb : JE T X E y b) (hm : behindInMarks op y = false) : JE T X E (.Compare x [op] [y] pos) (wBin g a b) := by
  obtain ⟨r, hr, hq⟩ := ho.ex
  exact peI (pe_cmpR hr ha hb hm) fun σ H Q h => lift_bin hq h
end
end Pd

namespace Pd
open PySem PySem.Spec PyProof.Rows L2 LamX
section
variable {X : Cx} {T : List (Addr × Str)} {E : XK}
def wChain (g g' : D → D → Option D) (a b m : W D) : W D := a.bind fun x => b.bind fun y => (W.opt (g x y)).bind fun z env Q ex => match z with
  | .bl t => br t ((m.bind fun w => .opt (g' y w)) env Q ex) (Q (.bl false) env)
  | _ => False
theorem je_chain {op op' : CmpOp} {g g' : D → D → Option D} {x y z : Expr} {a b m : W D} {pos : Pos} (ho : OpD X (compareOp op) g) (ho' : OpD X (compareOp op') g') (ha : JE T X E x a) (hb : JE T X E y b) (hm : JE T X E z m)
    (hl : lastMarks [op, op'] [y, z] = false := by with_unfolding_all rfl) : JE T X E (.Compare x [op, op'] [y, z] pos) (wChain g g' a b m) := by
  obtain ⟨r, hr, hq⟩ := ho.ex
  obtain ⟨r', hr', hq'⟩ := ho'.ex
  refine peI (pe_chain hr hr' ha hb hm hl) fun σ H Q ⟨c, wd, env, P, Ex, rl, h, xo, k⟩ => ?_
  refine ⟨c, wd, env, _, Ex, rl, h, xo, fun x1 env1 h1 v wd1 H1 le1 r1 rp1 => ⟨c, wd1, env1, _, Ex, r1, h1, xo, fun y1 env2 h2 u wd2 H2 le2 r2 rp2 => ?_⟩⟩
  obtain ⟨z1, e, h3⟩ := opt_inv h2
  refine hq x1 y1 z1 e T wd2 H2 v u _ r2.good (rp1.mono le2) rp2 fun w wd3 H3 g3 rp3 => ?_
  have le3 := g3.le r2.good
  have r3 := r2.grow g3
  split at h3
  · rename_i t
    cases rp3
    cases t
    · have h3 := br_f h3
      exact ⟨false, rfl, k _ env2 h3 _ wd3 H3 ((le1.trans le2).trans le3) r3 (.bl false)⟩
    have h3 := br_t h3
    refine ⟨true, rfl, ?_⟩
    show lift X.K T (rE X.K) E m σ H3 _
    refine ⟨c, wd3, env2, _, Ex, r3, h3, xo, fun w1 env4 h4 u4 wd4 H4 le4 r4 rp4 => ?_⟩
    obtain ⟨z2, e2, h5⟩ := opt_inv h4
    exact hq' y1 w1 z2 e2 T wd4 H4 u u4 Q r4.good ((rp2.mono le3).mono le4) rp4 fun w5 wd5 H5 g5 rp5 => k z2 env4 h5 w5 wd5 H5 ((((le1.trans le2).trans le3).trans le4).trans (g5.le r4.good)) (r4.grow g5) rp5
  · exact h3.elim

def wAnd (a b : W D) : W D := a.bind fun x env Q ex => match x with
  | .bl t => br t (b env Q ex) (Q (.bl false) env)
  | _ => False
def wNot (a : W D) : W D := a.bind fun x env Q ex => match x with
  | .bl b => Q (.bl (!b)) env
  | _ => False
theorem je_one {op} {x : Expr} {a : W D} {pos : Pos} (h : JE T X E x a) : JE T X E (.BoolOp op [x] pos) a := pe_one h
theorem je_and {x y : Expr} {rest : List Expr} {a b : W D} {pos : Pos} (ha : JE T X E x a) (hb : JE T X E (.BoolOp .And (y :: rest) pos) b) : JE T X E (.BoolOp .And (x :: y :: rest) pos) (wAnd a b) :=
  peI (pe_and ha hb) fun σ H Q ⟨c, wd, env, P, Ex, rl, h, xo, k⟩ => ⟨c, wd, env, _, Ex, rl, h, xo, fun x1 env1 h1 v wd1 H1 le1 r1 rp1 => by
    dsimp only at h1
    split at h1
    · rename_i t
      cases rp1
      cases t
      · exact ⟨false, rfl, k _ env1 (br_f h1) _ wd1 H1 le1 r1 (.bl false)⟩
      · exact ⟨true, rfl, c, wd1, env1, P, Ex, r1, br_t h1, xo, fun a1 env2 p b1 wd2 H2 le2 => k a1 env2 p b1 wd2 H2 (le1.trans le2)⟩
    · exact h1.elim⟩
theorem je_not {x : Expr} {a : W D} {pos : Pos} (ha : JE T X E x a) : JE T X E (.UnaryOp .Not x pos) (wNot a) :=
  peI (pe_not ha) fun σ H Q ⟨c, wd, env, P, Ex, rl, h, xo, k⟩ => ⟨c, wd, env, _, Ex, rl, h, xo, fun x1 env1 h1 v wd1 H1 le1 r1 rp1 => by
    dsimp only at h1
    split at h1
    · cases rp1
      exact ⟨_, rfl, k _ env1 h1 _ wd1 H1 le1 r1 (.bl _)⟩
    · exact h1.elim⟩
def wTest (a : W D) : W Bool := a.bind fun x env Q ex => match x with
  | .bl b => Q b env
  | _ => False
def tAndP (a b : W Bool) : W Bool := a.bind fun x env Q ex => br x (b env Q ex) (Q false env)
def tOrP (a b : W Bool) : W Bool := a.bind fun x env Q ex => br x (Q true env) (b env Q ex)
def tNotP (a : W Bool) : W Bool := a.bind fun x => .ret (!x)
theorem jt_val {x : Expr} {a : W D} (ha : JE T X E x a) (he : ∀ whole, isTrue x X.env whole = (do let v ← whole; standAt x.pos; holding [v] (truthy v)) := by intro _; rfl) : JT T X E x (wTest a) :=
  ptI (pt_val ha he) fun σ H Q ⟨c, wd, env, P, Ex, rl, h, xo, k⟩ => ⟨c, wd, env, _, Ex, rl, h, xo, fun x1 env1 h1 v wd1 H1 le1 r1 rp1 => by
    dsimp only at h1
    split at h1
    · cases rp1
      exact ⟨_, rfl, k _ env1 h1 _ wd1 H1 le1 r1 rfl⟩
    · exact h1.elim⟩
theorem jt_not {x : Expr} {a : W Bool} {pos : Pos} (ha : JT T X E x a) : JT T X E (.UnaryOp .Not x pos) (tNotP a) :=
  ptI (pt_not ha) fun σ H Q ⟨c, wd, env, P, Ex, rl, h, xo, k⟩ => ⟨c, wd, env, _, Ex, rl, h, xo, fun x1 env1 h1 v wd1 H1 le1 r1 rp1 => by
    cases (show v = x1 from rp1)
    exact k _ env1 h1 _ wd1 H1 le1 r1 rfl⟩
theorem jw_and1 {x : Expr} {a : W Bool} {pos : Pos} (ha : JT T X E x a) : JW T X E (.BoolOp .And [x] pos) a := pw_and1 ha
theorem jw_or1 {x : Expr} {a : W Bool} {pos : Pos} (ha : JT T X E x a) : JW T X E (.BoolOp .Or [x] pos) a := pw_or1 ha
theorem jw_and {x y : Expr} {rest : List Expr} {a b : W Bool} {pos : Pos} (ha : JT T X E x a) (hb : JW T X E (.BoolOp .And (y :: rest) pos) b) : JW T X E (.BoolOp .And (x :: y :: rest) pos) (tAndP a b) :=
  pwI (pw_and ha hb) fun σ H Q ⟨c, wd, env, P, Ex, rl, h, xo, k⟩ => ⟨c, wd, env, _, Ex, rl, h, xo, fun x1 env1 h1 v wd1 H1 le1 r1 rp1 => by
    obtain rfl : v = x1 := rp1
    cases v with
    | true => exact ⟨c, wd1, env1, P, Ex, r1, br_t h1, xo, fun a1 env2 p b1 wd2 H2 le2 => k a1 env2 p b1 wd2 H2 (le1.trans le2)⟩
    | false => exact k _ env1 (br_f h1) _ wd1 H1 le1 r1 rfl⟩
theorem jw_or {x y : Expr} {rest : List Expr} {a b : W Bool} {pos : Pos} (ha : JT T X E x a) (hb : JW T X E (.BoolOp .Or (y :: rest) pos) b) : JW T X E (.BoolOp .Or (x :: y :: rest) pos) (tOrP a b) :=
  pwI (pw_or ha hb) fun σ H Q ⟨c, wd, env, P, Ex, rl, h, xo, k⟩ => ⟨c, wd, env, _, Ex, rl, h, xo, fun x1 env1 h1 v wd1 H1 le1 r1 rp1 => by
    obtain rfl : v = x1 := rp1
    cases v with
    | true => exact k _ env1 (br_t h1) _ wd1 H1 le1 r1 rfl
    | false => exact ⟨c, wd1, env1, P, Ex, r1, br_f h1, xo, fun a1 env2 p b1 wd2 H2 le2 => k a1 env2 p b1 wd2 H2 (le1.trans le2)⟩⟩
theorem jt_bool {x : Expr} {a : W Bool} (h : JW T X E x a) : JT T X E x a := h.pt
theorem jt_cmp {op : CmpOp} {g : D → D → Option D} {x y : Expr} {a b : W D} {pos : Pos} (ho : OpD X (compareOp op) g) (ha : JE T X E x a) (hb : JE T X E y b) (hm : behindInMarks op y = false) : JT T X E (.Compare x [op] [y] pos) (wTest (wBin g a b)) := by
  obtain ⟨r, hr, hq⟩ := ho.ex
  refine ptI (pt_cmpR hr ha hb hm) fun σ H Q ⟨c, wd, env, P, Ex, rl, h, xo, k⟩ => lift_bin hq ⟨c, wd, env, _, Ex, rl, h, xo, fun x1 env1 h1 v wd1 H1 le1 r1 rp1 => ?_⟩
  dsimp only at h1
  split at h1
  · cases rp1
    exact ⟨_, rfl, k _ env1 h1 _ wd1 H1 le1 r1 rfl⟩
  · exact h1.elim
theorem jt_chain {op op' : CmpOp} {g g' : D → D → Option D} {x y z : Expr} {a b m : W D} {pos : Pos} (ho : OpD X (compareOp op) g) (ho' : OpD X (compareOp op') g') (ha : JE T X E x a) (hb : JE T X E y b) (hm : JE T X E z m)
    (hl : lastMarks [op, op'] [y, z] = false := by with_unfolding_all rfl) : JT T X E (.Compare x [op, op'] [y, z] pos) (wTest (wChain g g' a b m)) := by
  obtain ⟨r, hr, hq⟩ := ho.ex
  obtain ⟨r', hr', hq'⟩ := ho'.ex
  refine ptI (pt_chain hr hr' ha hb hm hl) fun σ H Q ⟨c, wd, env, P, Ex, rl, h, xo, k⟩ => ?_
  refine ⟨c, wd, env, _, Ex, rl, h, xo, fun x1 env1 h1 v wd1 H1 le1 r1 rp1 => ⟨c, wd1, env1, _, Ex, r1, h1, xo, fun y1 env2 h2 u wd2 H2 le2 r2 rp2 => ?_⟩⟩
  obtain ⟨z1, e, h3⟩ := opt_inv h2
  refine hq x1 y1 z1 e T wd2 H2 v u _ r2.good (rp1.mono le2) rp2 fun w wd3 H3 g3 rp3 => ?_
  have le3 := g3.le r2.good
  have r3 := r2.grow g3
  split at h3
  · rename_i t
    cases rp3
    cases t
    · have h3 := br_f h3
      exact ⟨false, rfl, false, rfl, k _ env2 h3 _ wd3 H3 ((le1.trans le2).trans le3) r3 rfl⟩
    have h3 := br_t h3
    refine ⟨true, rfl, ?_⟩
    show lift X.K T (rE X.K) E m σ H3 _
    refine ⟨c, wd3, env2, _, Ex, r3, h3, xo, fun w1 env4 h4 u4 wd4 H4 le4 r4 rp4 => ?_⟩
    obtain ⟨z2, e2, h5⟩ := opt_inv h4
    refine hq' y1 w1 z2 e2 T wd4 H4 u u4 _ r4.good ((rp2.mono le3).mono le4) rp4 fun w5 wd5 H5 g5 rp5 => ?_
    split at h5
    · cases rp5
      exact ⟨_, rfl, k _ env4 h5 _ wd5 H5 ((((le1.trans le2).trans le3).trans le4).trans (g5.le r4.good)) (r4.grow g5) rfl⟩
    · exact h5.elim
  · exact h3.elim
def wIf {α : Type} (t : W Bool) (a b : W α) : W α := t.bind fun x env Q ex => br x (a env Q ex) (b env Q ex)
theorem je_if {t x y : Expr} {w : W Bool} {a b : W D} {pos : Pos} (ht : JT T X E t w) (ha : JE T X E x a) (hb : JE T X E y b) : JE T X E (.IfExp t x y pos) (wIf w a b) :=
  peI (pe_ifExp ht ha hb) fun σ H Q ⟨c, wd, env, P, Ex, rl, h, xo, k⟩ => ⟨c, wd, env, _, Ex, rl, h, xo, fun x1 env1 h1 v wd1 H1 le1 r1 rp1 => by
    obtain rfl : v = x1 := rp1
    cases v with
    | true => exact ⟨c, wd1, env1, P, Ex, r1, br_t h1, xo, fun a1 env2 p b1 wd2 H2 le2 => k a1 env2 p b1 wd2 H2 (le1.trans le2)⟩
    | false => exact ⟨c, wd1, env1, P, Ex, r1, br_f h1, xo, fun a1 env2 p b1 wd2 H2 le2 => k a1 env2 p b1 wd2 H2 (le1.trans le2)⟩⟩
def dIdx : D → D → Option D
  | .tup xs, .int i => atI xs i
  | .lst xs, .int i => atI xs i
  | .scr ns, .int i => (atI ns i).map D.int
  | _, _ => none
theorem atI_reps {K : PySem.W.Frag} {wd : Wd} {vs : List V} {ds : List D} {i : Int} {d : D} (r : Reps K wd vs ds) (h : atI ds i = some d) : ∃ v, atI vs i = some v ∧ Rep K wd v d := by
  unfold atI at h ⊢
  rw [r.length]
  cases e : ixN ds.length i with
  | none =>
    rw [e] at h
    cases h
  | some j =>
    rw [e] at h
    exact r.get h
theorem sub_sqL {K : PySem.W.Frag} {wd : Wd} {H : Hp} {p : Addr} {vs : List V} (g : Good T wd H) (h : wd.M p = some (.lst vs)) : SqL K H p vs := .inl (.inl (g.sub _ _ h))
theorem sub_sqS {K : PySem.W.Frag} {wd : Wd} {H : Hp} {p : Addr} {vs : List V} (g : Good T wd H) (h : SqL K wd.M p vs) : SqL K H p vs := sqL_mono K g.sub h
theorem sub_sqT {K : PySem.W.Frag} {wd : Wd} {H : Hp} {p : Addr} {vs : List V} (g : Good T wd H) (h : wd.M p = some (.tup vs)) : SqT K H p vs := .inl (.inl (g.sub _ _ h))
abbrev JO (T : List (Addr × Str)) (X : Cx) (E : XK) (e : Option Expr) (w : W (Option Int)) : Prop := PO X e (lift X.K T (fun _ _ _ _ _ b a => b = a) E w)
def wPart (a : W D) : W (Option Int) := a.bind fun x env Q ex => match x with
  | .int i => Q (some i) env
  | _ => False
theorem poI {e : Option Expr} {t t' : TO} (h : PO X e t) (i : ∀ σ H Q, t' σ H Q → t σ H Q) : PO X e t' := ⟨fun pins s σ H Q I q => h.run pins s σ H Q I (i σ H Q q)⟩
theorem jo_none : JO T X E none (W.ret none) := poI po_none fun σ H Q ⟨c, wd, env, P, Ex, r, h, _, k⟩ => k _ env h _ wd H (Le.refl _) r rfl
theorem jo_some {x : Expr} {a : W D} (ha : JE T X E x a) : JO T X E (some x) (wPart a) :=
  poI (po_some ha) fun σ H Q ⟨c, wd, env, P, Ex, rl, h, xo, k⟩ => ⟨c, wd, env, _, Ex, rl, h, xo, fun x1 env1 h1 v wd1 H1 le1 r1 rp1 => by
    dsimp only at h1
    split at h1
    · cases rp1
      exact ⟨_, rfl, k _ env1 h1 _ wd1 H1 le1 r1 rfl⟩
    · exact h1.elim⟩
def cutD {α : Type} (xs : List α) (lo hi : Option Int) : List α := (xs.drop (HT.sIx xs.length 0 lo)).take (HT.sIx xs.length xs.length hi - HT.sIx xs.length 0 lo)
theorem cut_reps {K : PySem.W.Frag} {wd : Wd} {vs : List V} {ds : List D} (r : Reps K wd vs ds) (lo hi : Option Int) : Reps K wd (cutV vs lo hi) (cutD ds lo hi) := by
  unfold cutV cutD
  rw [r.length]
  exact (r.drop _).take _
theorem cut_len (vs : List V) (lo hi : Option Int) : (cutV vs lo hi).length ≤ vs.length := by
  unfold cutV
  rw [List.length_take, List.length_drop]
  omega
theorem siz_sqT {wd : Wd} {H : Hp} {p : Addr} {vs : List V} (g : Good T wd H) (h : wd.M p = some (.tup vs)) : vs.length ≤ sizeLine := (g.ntb _ _ h).2
def wSl (a : W D) (l h : W (Option Int)) : W D := a.bind fun x => l.bind fun lo => h.bind fun hi env Q ex => match x with
  | .tup xs => Q (.tup (cutD xs lo hi)) env
  | .lst xs => Q (.lst (cutD xs lo hi)) env
  | _ => False
theorem je_slice {x : Expr} {lo hi : Option Expr} {a : W D} {l h : W (Option Int)} {p2 pos : Pos} (ha : JE T X E x a) (hl : JO T X E lo l) (hh : JO T X E hi h) : JE T X E (.Subscript x (.Slice lo hi none p2) pos) (wSl a l h) := by
  refine peI (pe_slice (r := fun x lo hi H Q => rSlL X.K x lo hi H Q ∨ rSlA X.K x lo hi H Q) (sl_list.or sl_tupA) ha hl hh) fun σ H Q ⟨c, wd, env, P, Ex, rl, h, xo, k⟩ => ?_
  refine ⟨c, wd, env, _, Ex, rl, h, xo, fun x1 env1 h1 v wd1 H1 le1 r1 rp1 => ⟨c, wd1, env1, _, Ex, r1, h1, xo, fun l1 env2 h2 lv wd2 H2 le2 r2 e2 => ?_⟩⟩
  obtain rfl : lv = l1 := e2
  refine ⟨c, wd2, env2, _, Ex, r2, h2, xo, fun l3 env3 h3 uv wd3 H3 le3 r3 e3 => ?_⟩
  obtain rfl : uv = l3 := e3
  have rp3 := Rep.mono le3 (Rep.mono le2 rp1)
  have le := (le1.trans le2).trans le3
  split at h3
  · cases rp3 with
    | tup hs rs =>
      have hq := sub_sqT (K := X.K) r3.good hs
      refine .inr ⟨_, _, rfl, hq, ?_⟩
      have key : ∀ w wd' H', Grow wd3 H3 wd' H' → Rep X.K wd' w (.tup (cutD _ lv uv)) → Q w H' := fun w wd' H' g rp => k _ env3 h3 w wd' H' (le.trans (g.le r3.good)) (r3.grow g) rp
      have dd : Del X.K wd3 H3 (.tup (cutD _ lv uv)) Q := key
      have rc := cut_reps rs lv uv
      have hz : (cutV _ lv uv).length ≤ sizeLine := Nat.le_trans (cut_len _ lv uv) (siz_sqT r3.good hs)
      refine ⟨fun z => dd.now (.tup hs ?_), fun z p hp => dd.tup r3.good hp rc hz⟩
      have e : cutV _ lv uv = _ := (show cutV _ lv uv = (List.take _ (List.drop _ _)) from rfl).trans (by rw [z.1, z.2, List.drop_zero, Nat.sub_zero, List.take_length])
      rw [e] at rc
      exact rc
  · cases rp3 with
    | lst hs rs =>
      have hq := sub_sqL (K := X.K) r3.good hs
      refine .inl ⟨_, _, rfl, hq, fun p hp => ?_⟩
      have dd : Del X.K wd3 H3 (.lst (cutD _ lv uv)) Q := fun w wd' H' g rp => k _ env3 h3 w wd' H' (le.trans (g.le r3.good)) (r3.grow g) rp
      exact dd.lst r3.good hp (cut_reps rs lv uv) (Nat.le_trans (cut_len _ lv uv) ((r3.good.ntb _ _ hs).2))
  · exact h3.elim
end
end Pd

namespace Pd
open PySem PySem.Spec PyProof.Rows L2 LamX

structure PEnds where
  nx : PEnv → Prop
  rt : D → Prop
  bk : PEnv → Prop := fun _ => False
  ct : PEnv → Prop := fun _ => False
  ex : Xc → Prop := fun _ => False
abbrev WS := PEnds → PEnv → Prop
section
variable (K : PySem.W.Frag) (T : List (Addr × Str))
structure EndsOk (c : Ctx) (wd : Wd) (E : XK) (pe : PEnds) (D : Ends) : Prop where
  ex : XOk K T c E pe.ex
  nx : ∀ env', pe.nx env' → ∀ (σ' : L2.St) (wd' : Wd) (H' : Hp), Le wd wd' → Rel K T c wd' env' σ' H' → D.nx σ' H'
  rt : ∀ d, pe.rt d → ∀ (v : V) (wd' : Wd) (H' : Hp), Ord c.wd wd' c.H → Good T wd' H' → Keep c.wd c.H H' → Rep K wd' v d → D.rt v H'
  bk : ∀ env', pe.bk env' → ∀ (σ' : L2.St) (wd' : Wd) (H' : Hp), Le wd wd' → Rel K T c wd' env' σ' H' → D.bk σ' H'
  ct : ∀ env', pe.ct env' → ∀ (σ' : L2.St) (wd' : Wd) (H' : Hp), Le wd wd' → Rel K T c wd' env' σ' H' → D.ct σ' H'
def liftS (E : XK) (w : WS) : TS := fun D σ H => ∃ (c : Ctx) (wd : Wd) (env : PEnv) (pe : PEnds), Rel K T c wd env σ H ∧ w pe env ∧ EndsOk K T c wd E pe D
end
theorem EndsOk.mono {K : PySem.W.Frag} {T : List (Addr × Str)} {c : Ctx} {wd wd1 : Wd} {E : XK} {pe : PEnds} {D : Ends} (o : EndsOk K T c wd E pe D) (le : Le wd wd1) : EndsOk K T c wd1 E pe D :=
  ⟨o.ex, fun e h σ w H l => o.nx e h σ w H (le.trans l), o.rt, fun e h σ w H l => o.bk e h σ w H (le.trans l), fun e h σ w H l => o.ct e h σ w H (le.trans l)⟩
abbrev JS (T : List (Addr × Str)) (X : Cx) (E : XK) (st : Stmt) (w : WS) : Prop := PS X st (liftS X.K T E w)
abbrev JSs (T : List (Addr × Str)) (X : Cx) (E : XK) (sts : List Stmt) (w : WS) : Prop := PSs X sts (liftS X.K T E w)
structure Bd (X : Cx) (E : XK) (k : Nat) : Prop where
  room : Room k X.A
  pass : Passes (L2.CX X.prog X.w) X E
  own : PassesOwn (model X.prog X.w) X.A X.env X.xe
  calm : X.calm = true
  nd : X.N.Nodup
section
variable {X : Cx} {T : List (Addr × Str)} {E : XK} {k : Nat}
theorem psI {st : Stmt} {t t' : TS} (h : PS X st t) (i : ∀ D σ H, t' D σ H → t D σ H) : PS X st t' := ⟨fun pins s σ H D I q => h.run pins s σ H D I (i D σ H q)⟩
theorem pssI {st : List Stmt} {t t' : TS} (h : PSs X st t) (i : ∀ D σ H, t' D σ H → t D σ H) : PSs X st t' := ⟨fun pins s σ H D I q => h.run pins s σ H D I (i D σ H q)⟩
def sSeq (a b : WS) : WS := fun pe env => a { pe with nx := b pe } env
def sNil : WS := fun pe env => pe.nx env
theorem jss_nil : JSs T X E [] sNil := pssI pss_nil fun D σ H ⟨c, wd, env, pe, r, h, o⟩ => o.nx env h σ wd H (Le.refl _) r
theorem jss_cons {st : Stmt} {sts : List Stmt} {a b : WS} (ha : JS T X E st a) (hb : JSs T X E sts b) : JSs T X E (st :: sts) (sSeq a b) :=
  pssI (pss_cons ha hb) fun D σ H ⟨c, wd, env, pe, r, h, o⟩ => ⟨c, wd, env, _, r, h, ⟨o.ex, fun env' hb σ' wd' H' le r' => ⟨c, wd', env', pe, r', hb, o.mono le⟩, o.rt, o.bk, o.ct⟩⟩
theorem jss_one {st : Stmt} {a : WS} (ha : JS T X E st a) : JSs T X E [st] a := pss_one ha
def sSet (i : Nat) (e : W D) : WS := fun pe env => e env (fun d env' => pe.nx (env'.set i (some (.d d)))) pe.ex
theorem js_set (i : Nat) {x : Str} {e : Expr} {w : W D} {pos pos' : Pos} (B : Bd X E k) (he : JE T X E e w) (hi : X.N[i]? = some x := by rfl) (hx : Loc X.env.scope x := by first | exact Or.inl rfl | exact Or.inr rfl) (hs : swapsWith e (some (.Name x pos')) pos.line X.env = pure false := by rfl)
    (hf : X.fn x = true ∨ X.env.scope.names.lookup x = some .local := by first | exact .inl rfl | exact .inr rfl) : JS T X E (.Assign [.Name x pos'] e pos) (sSet i w) :=
  psI (ps_set B.nd hi hx he hs hf) fun D σ H ⟨c, wd, env, pe, r, h, o⟩ => ⟨c, wd, env, _, _, r, h, o.ex, fun d env' h' v wd' H' le r' rp => o.nx _ h' _ wd' H' le (r'.set rp)⟩
def sSetOwn (i : Nat) (e : W (List D)) : WS := fun pe env => e env (fun xs env' => pe.nx (env'.set i (some (.own xs)))) pe.ex
theorem Rel.ownF {K : PySem.W.Frag} {c : Ctx} {wd : Wd} {env : PEnv} {σ : L2.St} {H : Hp} (r : Rel K T c wd env σ H) {i : Nat} {v : V} {xs : List D} (f : rF K c wd env σ H v xs) : Rel K T c wd (env.set i (some (.own xs))) (σ.set i (some v)) H := by
  obtain ⟨p, vs, rfl, h1, h2, h3, h4, h5, h6, h7⟩ := f
  refine ⟨r.ord, r.good, r.keep, by simp [r.len], fun j y e => ?_, fun j ys e => ?_, fun j l as bs q e1 e2 e3 e4 => ?_, fun q hq => ?_, r.ext.sl (fun j s e n1 n2 => ?_) fun j ys e => ?_⟩
  · rcases get_set e with ⟨rfl, e, hl⟩ | ⟨ne, e⟩
    · cases e
    · obtain ⟨w, z1, z2⟩ := r.dat j y e
      exact ⟨w, by rw [List.getElem?_set_ne ne]; exact z1, z2⟩
  · rcases get_set e with ⟨rfl, e, hl⟩ | ⟨ne, e⟩
    · cases e
      rw [r.len] at hl
      exact ⟨p, vs, List.getElem?_set_self hl, h1, h2, h3, h4, h5⟩
    · obtain ⟨q, us, z1, z2⟩ := r.own j ys e
      exact ⟨q, us, by rw [List.getElem?_set_ne ne]; exact z1, z2⟩
  · rcases get_set e1 with ⟨rfl, e, hl⟩ | ⟨ne1, e1⟩
    · rcases get_set e2 with ⟨rfl, e, hl⟩ | ⟨ne2, e2⟩
      · rfl
      · rw [r.len] at hl
        rw [List.getElem?_set_self hl] at e3
        cases e3
        rw [List.getElem?_set_ne ne2] at e4
        exact absurd e4 (h6.o _ _ e2)
    · rcases get_set e2 with ⟨rfl, e, hl⟩ | ⟨ne2, e2⟩
      · rw [r.len] at hl
        rw [List.getElem?_set_self hl] at e4
        cases e4
        rw [List.getElem?_set_ne ne1] at e3
        exact absurd e3 (h6.o _ _ e1)
      · rw [List.getElem?_set_ne ne1] at e3
        rw [List.getElem?_set_ne ne2] at e4
        exact r.sep j l as bs q e1 e2 e3 e4
  · obtain ⟨z1, z2, z3, z4⟩ := r.pin q hq
    refine ⟨z1, z2, z3, fun j ys e => ?_, z4.c.set_d fun _ z => nomatch z⟩
    rcases get_set e with ⟨rfl, e, hl⟩ | ⟨ne, e⟩
    · rw [r.len] at hl
      rw [List.getElem?_set_self hl]
      intro z
      exact h7 q hq (by cases z; rfl)
    · rw [List.getElem?_set_ne ne]
      exact z4.o j ys e
  · rcases get_set e with ⟨rfl, e, hl⟩ | ⟨ne, e⟩
    · cases e
      exact absurd rfl (n2 _)
    · exact ⟨e, List.getElem?_set_ne ne⟩
  · rcases get_set e with ⟨rfl, e, hl⟩ | ⟨ne, e⟩
    · rw [r.len] at hl
      exact .inr ⟨p, List.getElem?_set_self hl, h6.c⟩
    · exact .inl ⟨ys, e, List.getElem?_set_ne ne⟩
theorem js_setOwn (i : Nat) {x : Str} {e : Expr} {w : W (List D)} {pos pos' : Pos} (B : Bd X E k) (he : JF T X E e w) (hi : X.N[i]? = some x := by rfl) (hx : Loc X.env.scope x := by first | exact Or.inl rfl | exact Or.inr rfl) (hs : swapsWith e (some (.Name x pos')) pos.line X.env = pure false := by rfl)
    (hf : X.fn x = true ∨ X.env.scope.names.lookup x = some .local := by first | exact .inl rfl | exact .inr rfl) : JS T X E (.Assign [.Name x pos'] e pos) (sSetOwn i w) :=
  psI (ps_set B.nd hi hx he hs hf) fun D σ H ⟨c, wd, env, pe, r, h, o⟩ => ⟨c, wd, env, _, _, r, h, o.ex, fun xs env' h' v wd' H' le r' f => o.nx _ h' _ wd' H' le (r'.ownF f)⟩
def sRet (e : W D) : WS := fun pe env => e env (fun d _ => pe.rt d) pe.ex
theorem js_ret {e : Expr} {w : W D} {pos : Pos} (he : JE T X E e w) : JS T X E (.Return (some e) pos) (sRet w) :=
  psI (ps_ret he) fun D σ H ⟨c, wd, env, pe, r, h, o⟩ => ⟨c, wd, env, _, _, r, h, o.ex, fun d env' h' v wd' H' le r' rp => o.rt d h' v wd' H' r'.ord r'.good r'.keep rp⟩
def sDrop (e : W D) : WS := fun pe env => e env (fun _ env' => pe.nx env') pe.ex
theorem js_expr {e : Expr} {w : W D} {pos : Pos} (he : JE T X E e w) (hs : swapsWith e none pos.line X.env = pure false := by rfl) : JS T X E (.Expr e pos) (sDrop w) :=
  psI (ps_expr he hs) fun D σ H ⟨c, wd, env, pe, r, h, o⟩ => ⟨c, wd, env, _, _, r, h, o.ex, fun d env' h' v wd' H' le r' rp => o.nx _ h' _ wd' H' le r'⟩
def sIf (t : W Bool) (a b : WS) : WS := fun pe env => t env (fun x env' => br x (a pe env') (b pe env')) pe.ex
theorem js_if {t : Expr} {x y : List Stmt} {w : W Bool} {a b : WS} {pos : Pos} (ht : JT T X E t w) (ha : JSs T X E x a) (hb : JSs T X E y b) : JS T X E (.If t x y pos) (sIf w a b) :=
  psI (ps_if ht ha hb) fun D σ H ⟨c, wd, env, pe, r, h, o⟩ => ⟨c, wd, env, _, _, r, h, o.ex, fun d env' h' v wd' H' le r' rp => by
    obtain rfl : v = d := rp
    cases v with
    | true => exact ⟨c, wd', env', pe, r', br_t h', o.mono le⟩
    | false => exact ⟨c, wd', env', pe, r', br_f h', o.mono le⟩⟩
abbrev WG := D → PEnv → (PEnv → Prop) → Prop
def liftG (K : PySem.W.Frag) (T : List (Addr × Str)) (vs : List Nat) (w : WG) : TG := fun v σ H Q => ∃ (c : Ctx) (wd : Wd) (env : PEnv) (d : D) (P : PEnv → Prop), Rel K T c wd env σ H ∧ Rep K wd v d ∧ w d env P ∧ ∀ env', P env' → ∀ σ', Rel K T c wd env' σ' H → wipe σ' vs = wipe σ vs → Q σ' H
abbrev JG (T : List (Addr × Str)) (X : Cx) (vs : List Nat) (tg : Expr) (w : WG) : Prop := PG X tg (liftG X.K T vs w)
theorem pgI {tg : Expr} {t t' : TG} (h : PG X tg t) (i : ∀ v σ H Q, t' v σ H Q → t v σ H Q) : PG X tg t' := ⟨fun pins s σ H v u Q I r q => h.run pins s σ H v u Q I r (i v σ H Q q)⟩
theorem wipe_set {σ : L2.St} {i : Nat} {x : Option V} : ∀ {vs : List Nat}, i ∈ vs → wipe (σ.set i x) vs = wipe σ vs
  | [], h => by cases h
  | v :: vs, h => by
    show (wipe (σ.set i x) vs).set v none = (wipe σ vs).set v none
    by_cases hv : i ∈ vs
    · rw [wipe_set hv]
    · have e : v = i := by
        rcases List.mem_cons.mp h with z | z
        · exact z.symm
        · exact absurd z hv
      subst e
      have key : ∀ {us : List Nat}, v ∉ us → wipe (σ.set v x) us = (wipe σ us).set v x := fun {us} => by
        induction us with
        | nil => intro _; rfl
        | cons u us ih =>
          intro hn
          have h1 : v ≠ u := fun z => hn (by rw [z]; exact List.mem_cons_self)
          have h2 := ih fun z => hn (List.mem_cons_of_mem _ z)
          show (wipe (σ.set v x) us).set u none = ((wipe σ us).set u none).set v x
          rw [h2, List.set_comm _ _ h1]
      rw [key hv, List.set_set]
def gNm (i : Nat) : WG := fun d env Q => Q (env.set i (some (.d d)))
theorem jg_name (i : Nat) {x : Str} {pos : Pos} {vs : List Nat} (nd : X.N.Nodup) (hv : i ∈ vs := by decide) (hi : X.N[i]? = some x := by rfl) (hx : Loc X.env.scope x := by first | exact Or.inl rfl | exact Or.inr rfl) (hf : X.fn x = true ∨ X.env.scope.names.lookup x = some .local := by first | exact .inl rfl | exact .inr rfl) : JG T X vs (.Name x pos) (gNm i) :=
  pgI (pg_name nd hi hx hf) fun v σ H Q ⟨c, wd, env, d, P, r, rp, h, k⟩ => k _ h _ (r.set rp) (wipe_set hv)
abbrev WGs := List D → PEnv → (PEnv → Prop) → Prop
def liftGs (K : PySem.W.Frag) (T : List (Addr × Str)) (us : List Nat) (w : WGs) : TGs := fun vs σ H Q => ∃ (c : Ctx) (wd : Wd) (env : PEnv) (ds : List D) (P : PEnv → Prop), Rel K T c wd env σ H ∧ Reps K wd vs ds ∧ w ds env P ∧ ∀ env', P env' → ∀ σ', Rel K T c wd env' σ' H → wipe σ' us = wipe σ us → Q σ' H
abbrev JGs (T : List (Addr × Str)) (X : Cx) (us : List Nat) (ts : List Expr) (w : WGs) : Prop := PGs X ts (liftGs X.K T us w)
theorem pgsI {ts : List Expr} {t t' : TGs} (h : PGs X ts t) (i : ∀ v σ H Q, t' v σ H Q → t v σ H Q) : PGs X ts t' := ⟨fun pins s σ H v u Q I r q => h.run pins s σ H v u Q I r (i v σ H Q q)⟩
def gsNil : WGs := fun ds env Q => match ds with
  | [] => Q env
  | _ => False
def gsCons (g : WG) (r : WGs) : WGs := fun ds env Q => match ds with
  | d :: ds => g d env fun env' => r ds env' Q
  | _ => False
theorem jgs_nil {us : List Nat} : JGs T X us [] gsNil := pgsI pgs_nil fun vs σ H Q ⟨c, wd, env, ds, P, r, rp, h, k⟩ => by
  cases rp with
  | nil => exact ⟨rfl, k _ h _ r rfl⟩
  | cons _ _ => exact h.elim
theorem jgs_cons {e : Expr} {es : List Expr} {g : WG} {w : WGs} {us : List Nat} (h1 : JG T X us e g) (h2 : JGs T X us es w) (hs : (assignEach (e :: es) X.env).map (·.2) = assign e X.env :: (assignEach es X.env).map (·.2) := by rfl) : JGs T X us (e :: es) (gsCons g w) :=
  pgsI (pgs_cons h1 h2 hs) fun vs σ H Q ⟨c, wd, env, ds, P, r, rp, h, k⟩ => by
    cases rp with
    | nil => exact h.elim
    | cons a b => exact ⟨_, _, rfl, c, wd, env, _, _, r, a, h, fun env' h' σ' r' e' => ⟨c, wd, env', _, P, r', b, h', fun env2 h2 σ2 r2 e2 => k env2 h2 σ2 r2 (e2.trans e')⟩⟩
def gTupP (w : WGs) (n : Nat) : WG := fun d env Q => match d with
  | .tup xs => xs.length = n ∧ w xs env Q
  | _ => False
theorem jg_tup {es : List Expr} {kk : Nat} {w : WGs} {n : Nat} {pos : Pos} {us : List Nat} (hc : X.calm = true) (h : JGs T X us es w) (hn : (assignEach es X.env).length = n := by rfl) (hst : (assignEach es X.env).findIdx? (·.1) = none := by rfl) : JG T X us (.Tuple es kk pos) (gTupP w n) :=
  pgI (pg_tup hc h hn hst) fun v σ H Q ⟨c, wd, env, d, P, r, rp, h, k⟩ => by
    unfold gTupP at h
    split at h
    · cases rp with
      | tup hs rs => exact ⟨_, _, rfl, sub_sqT r.good hs, by rw [rs.length]; exact h.1, c, wd, env, _, P, r, rs, h.2, k⟩
    · exact h.elim
def sAsg (e : W D) (g : WG) : WS := fun pe env => e env (fun d env' => g d env' pe.nx) pe.ex
theorem js_asg {tg e : Expr} {w : W D} {g : WG} {pos : Pos} {us : List Nat} (he : JE T X E e w) (hg : JG T X us tg g) (hs : swapsWithSole [tg] e pos.line X.env = pure false := by rfl) (hw : swappedStores [tg] e X.env = pure none := by rfl)
    (h1 : (assignEach [tg] X.env).map (·.2) = [assign tg X.env] := by rfl) : JS T X E (.Assign [tg] e pos) (sAsg w g) :=
  psI (ps_asg he hg hs hw h1) fun D σ H ⟨c, wd, env, pe, r, h, o⟩ => ⟨c, wd, env, _, _, r, h, o.ex, fun d env' h' v wd' H' le r' rp => ⟨c, wd', env', d, _, r', rp, h', fun env2 h2 σ' r2 _ => o.nx env2 h2 σ' wd' H' le r2⟩⟩
end
end Pd

namespace Pd
open PySem PySem.Spec PyProof.Rows L2 LamX

section
variable {K : PySem.W.Frag} {T : List (Addr × Str)} {c : Ctx} {wd : Wd} {env : PEnv} {σ : L2.St} {H : Hp}
theorem Ext.addT (x : Ext K c wd env σ H) {p : Addr} {vs : List V} (hm : wd.M p = none) (h : H p = some (.tup vs)) : Ext K c (wd.add p (.tup vs)) env σ H := by
  have le : Le wd (wd.add p (.tup vs)) := Le.add hm
  refine ⟨fun i p0 C fs e => ?_, x.ob1, fun i cs e q hq => ?_, x.cnd, x.ce1, fun i lk kvs e => ?_, x.dc1⟩
  · obtain ⟨dx, us, h1, h2, h3, h4, h5, h6⟩ := x.obj i p0 C fs e
    refine ⟨dx, us, h1, h2, upd_none h3 (fun z => ?_), h4, h5, h6.mono le⟩
    rw [z, h] at h2
    cases h2
  · obtain ⟨⟨us, h1, h2⟩, h3, h4, h5, h6⟩ := x.cel i cs e q hq
    refine ⟨⟨us, h1, h2.mono le⟩, upd_none h3 (fun z => ?_), h4, h5, h6⟩
    rw [z, h] at h1
    cases h1
  · obtain ⟨p0, us, h1, h2, h3, h4, h5, h6⟩ := x.dct i lk kvs e
    refine ⟨p0, us, h1, h2, upd_none h3 (fun z => ?_), h4, h5, h6.mono le⟩
    rw [z, h] at h2
    exact lk_tup h2
theorem Rel.known (r : Rel K T c wd env σ H) {p : Addr} {vs : List V} (h : H p = some (.tup vs)) : ∃ wd', Le wd wd' ∧ Rel K T c wd' env σ H ∧ wd'.M p = some (.tup vs) := by
  cases hm : wd.M p with
  | some o =>
    have := r.good.sub p o hm
    rw [h] at this
    exact ⟨wd, Le.refl _, r, by rw [hm]; exact this.symm⟩
  | none =>
    have le : Le wd (wd.add p (.tup vs)) := Le.add hm
    have uq : ∀ {a : Addr} {o : HO}, (wd.add p (.tup vs)).M a = some o → (a = p ∧ o = .tup vs) ∨ wd.M a = some o := fun {a o} z => by
      by_cases ha : a = p
      · subst ha
        have z' : upd wd.M a (.tup vs) a = some o := z
        rw [upd_same] at z'
        cases z'
        exact .inl ⟨rfl, rfl⟩
      · have z' : upd wd.M p (.tup vs) a = some o := z
        rw [upd_ne ha] at z'
        exact .inr z'
    have nl : ∀ {a : Addr} {us : List V}, H a = some (.lst us) → a ≠ p := fun {a us} e z => by
      rw [z, h] at e
      cases e
    refine ⟨_, le, ⟨⟨r.ord.le.trans le, fun a o z => ?_, r.ord.fb⟩, ⟨fun a o z => ?_, fun a o z => ?_, fun b hb => ?_, r.good.tab, r.good.siz⟩, r.keep, r.len, fun i d z => ?_, fun i ys z => ?_, r.sep, fun q hq => ?_, r.ext.addT hm h⟩, upd_same⟩
    · rcases uq z with ⟨rfl, rfl⟩ | z
      · exact .inr (.inr ⟨vs, rfl⟩)
      · exact r.ord.fm a o z
    · rcases uq z with ⟨rfl, rfl⟩ | z
      · exact h
      · exact r.good.sub a o z
    · rcases uq z with ⟨rfl, rfl⟩ | z
      · exact ⟨noTb_tup, r.good.siz _ _ h⟩
      · exact r.good.ntb a o z
    · obtain ⟨z1, z2⟩ := r.good.box b hb
      refine ⟨?_, z2⟩
      obtain ⟨_, _, _, e, _⟩ := z2
      exact upd_none z1 (nl e)
    · obtain ⟨v, z1, z2⟩ := r.dat i d z
      exact ⟨v, z1, z2.mono le⟩
    · obtain ⟨q, us, z1, z2, z3, z4, z5, z6⟩ := r.own i ys z
      exact ⟨q, us, z1, z2, upd_none z3 (nl z2), z4, z5, z6.mono le⟩
    · obtain ⟨z1, z2, z3, z4⟩ := r.pin q hq
      exact ⟨z1, upd_none z2 (nl z1), z3, z4⟩
end
section
variable (K : PySem.W.Frag) (T : List (Addr × Str))
def YD (wd : Wd) (d : D) (H : Hp) (v : V) (H' : Hp) : Prop := (H' = H ∧ Rep K wd v d) ∨ (∃ (p : Addr) (vs : List V) (ds : List D), v = .ref p ∧ H p = none ∧ H' = upd H p (.tup vs) ∧ d = .tup ds ∧ Reps K wd vs ds ∧ vs.length ≤ sizeLine) ∨
  (∃ (p : Addr) (vs : List V) (ds : List D), v = .ref p ∧ H p = some (.tup vs) ∧ H' = H ∧ d = .tup ds ∧ Reps K wd vs ds) ∨
  ∃ (p q : Addr) (n : Int) (vs : List V) (ds : List D), v = .ref p ∧ H q = none ∧ H p = none ∧ p ≠ q ∧ H' = upd (upd H q (.tup vs)) p (.tup [.int n, .ref q]) ∧ d = .tup [.int n, .tup ds] ∧ Reps K wd vs ds ∧ vs.length ≤ sizeLine
def WalkD (wd : Wd) (J : It) (xs : List D) : Prop := Walk J xs.length (fun H => Sub wd.M H) (fun i H v H' => ∃ d, xs[i]? = some d ∧ YD K wd d H v H')
def liftI (E : XK) (w : W (List D)) : TI := fun σ H R => ∃ (c : Ctx) (wd : Wd) (env : PEnv) (P : List D → PEnv → Prop) (Ex : Xc → Prop), Rel K T c wd env σ H ∧ w env P Ex ∧ XOk K T c E Ex ∧
  ∀ xs env', P xs env' → ∀ (J : It) (wd' : Wd) (H' : Hp), Le wd wd' → Rel K T c wd' env' σ H' → WalkD K wd' J xs → xs.length ≤ sizeLine → R J H'
end
abbrev JI (T : List (Addr × Str)) (X : Cx) (E : XK) (tg e : Expr) (w : W (List D)) : Prop := PI X tg e (liftI X.K T E w)
section
variable {X : Cx} {T : List (Addr × Str)} {E : XK} {k : Nat} {tg : Expr}
theorem piI {e : Expr} {t t' : TI} (h : PI X tg e t) (i : ∀ σ H R, t' σ H R → t σ H R) : PI X tg e t' := ⟨fun pins s σ H R I q => h.run pins s σ H R I (i σ H R q)⟩
def iSeq (K : PySem.W.Frag) (tl : TE) : TI := fun σ H R => tl σ H fun x H1 => ∃ a, x = .ref a ∧ (((∃ ys, SqL K H1 a ys) ∧ R (Itl K a) H1) ∨ ((∃ ys, SqT K H1 a ys) ∧ R (Itt K a) H1))
theorem pi_seq {l : Expr} {tl : TE} (hl : PE X l tl) : PI X tg l (iSeq X.K tl) := by
  constructor
  intro pins s σ H R I h
  refine thn (hl.run pins s σ H _ I h) ?_
  rintro v s1 ⟨x, H1, J1, r1, a, rfl, q⟩
  cases r1
  have fp1 : ∀ b ∈ [s1.heap.objs.size], FpOk X pins H1 b := fun b hb => by
    rw [List.mem_singleton.mp hb]
    exact J1.fpOk (Nat.le_refl _) (J1.hok.fresh (Nat.le_refl _))
  rcases q with ⟨⟨ys, hy⟩, q⟩ | ⟨⟨ys, hy⟩, q⟩
  · obtain ⟨us, ru, pu, _⟩ := J1.list hy
    exact wpAny_pyIter_list pu.isList ⟨_, [_], _, _, H1, rfl, J1.kept (t' := s1.toks) fun b o z => Heap.get?_push_of_some _ z, turn_list a _, ⟨_, Heap.get?_push_size _ rfl, rfl, rfl⟩, fp1, q⟩
  · obtain ⟨us, ru, pu, _⟩ := J1.tuple hy
    exact wpAny_pyIter_tuple (show s1.heap.IsTuple a us.toArray from pu) ⟨_, [_], _, _, H1, rfl, J1.kept (t' := s1.toks) fun b o z => Heap.get?_push_of_some _ z, turn_tuple a _, ⟨_, Heap.get?_push_size _ rfl, rfl, rfl⟩, fp1, q⟩
def wItems (a : W D) : W (List D) := a.bind fun x env Q _ => match x with
  | .tup xs => Q xs env
  | .lst xs => Q xs env
  | _ => False
theorem walkD_list {K : PySem.W.Frag} {wd : Wd} {a : Addr} {vs : List V} {xs : List D} (h : wd.M a = some (.lst vs)) (r : Reps K wd vs xs) : WalkD K wd (Itl K a) xs := by
  unfold WalkD
  rw [← r.length]
  refine (walk_list (K := K) (a := a) (xs := vs)).mono (fun H z => .inl (.inl (z _ _ h))) fun i H x H' hi z y => ?_
  obtain ⟨rfl, e⟩ := y
  obtain ⟨d, e1, r1⟩ := r.getV e
  exact ⟨d, e1, .inl ⟨rfl, r1⟩⟩
theorem walkD_tup {K : PySem.W.Frag} {wd : Wd} {a : Addr} {vs : List V} {xs : List D} (h : wd.M a = some (.tup vs)) (r : Reps K wd vs xs) : WalkD K wd (Itt K a) xs := by
  have h : SqT K wd.M a vs := .inl (.inl h)
  unfold WalkD
  rw [← r.length]
  refine (walk_tup (K := K) (a := a) (xs := vs)).mono (fun H z => sqT_mono K z h) fun i H x H' hi z y => ?_
  obtain ⟨rfl, e⟩ := y
  obtain ⟨d, e1, r1⟩ := r.getV e
  exact ⟨d, e1, .inl ⟨rfl, r1⟩⟩
theorem ji_seq {e : Expr} {w : W D} (he : JE T X E e w) : JI T X E tg e (wItems w) :=
  piI (pi_seq he) fun σ H R ⟨c, wd, env, P, Ex, r, h, xo, kk⟩ => ⟨c, wd, env, _, Ex, r, h, xo, fun x env1 h1 v wd1 H1 le1 r1 rp1 => by
    dsimp only at h1
    split at h1
    · cases rp1 with
      | tup hs rs =>
        have hq := sub_sqT (K := X.K) r1.good hs
        exact ⟨_, rfl, .inr ⟨⟨_, hq⟩, kk _ env1 h1 _ wd1 H1 le1 r1 (walkD_tup hs rs) (by rw [← rs.length]; exact siz_sqT r1.good hs)⟩⟩
    · cases rp1 with
      | lst hs rs =>
        have hq := sub_sqL (K := X.K) r1.good hs
        exact ⟨_, rfl, .inl ⟨⟨_, hq⟩, kk _ env1 h1 _ wd1 H1 le1 r1 (walkD_list hs rs) (by rw [← rs.length]; exact (r1.good.ntb _ _ hs).2)⟩⟩
    · exact h1.elim⟩
def upTo (lo hi : Int) : List D := (List.range (hi - lo).toNat).map fun (i : Nat) => D.int (lo + i)
theorem walkD_range {K : PySem.W.Frag} {wd : Wd} {lo hi : Int} : WalkD K wd (Itr lo (hi - lo).toNat) (upTo lo hi) := by
  unfold WalkD upTo
  rw [List.length_map, List.length_range]
  refine (walk_range (lo := lo) (n := (hi - lo).toNat)).mono (fun H z => trivial) fun i H x H' hl z y => ?_
  obtain ⟨rfl, rfl⟩ := y
  refine ⟨_, ?_, .inl ⟨rfl, .int _⟩⟩
  rw [List.getElem?_map, List.getElem?_range hl]
  rfl
def wRng1 (a : W D) : W (List D) := a.bind fun x env Q _ => match x with
  | .int j => j ≤ 1000000 ∧ -1000000 ≤ j ∧ Q (upTo 0 j) env
  | _ => False
theorem upTo_len {lo hi : Int} (h : hi - lo ≤ 2000000) : (upTo lo hi).length ≤ sizeLine := by
  unfold upTo
  rw [List.length_map, List.length_range]
  have : sizeLine = 16777216 := by decide
  omega
theorem ji_range1 {e : Expr} {w : W D} {p pos : Pos} (hg : Gl X "range") (hm : X.mg "range" = none) (he : JE T X E e w) (hs : starEach [e] X.env = [(false, eval e X.env)] := by rfl) : JI T X E tg (.Call (.Name "range" p) [e] [] pos) (wRng1 w) :=
  piI (pi_range1 hg hm (pa_cons he pa_nil hs) hs) fun σ H R ⟨c, wd, env, P, Ex, r, h, xo, kk⟩ => ⟨c, wd, env, _, Ex, r, h, xo, fun x env1 h1 v wd1 H1 le1 r1 rp1 => by
    dsimp only at h1
    split at h1
    · rename_i j
      cases rp1
      refine ⟨_, rfl, by omega, by omega, ?_⟩
      have e0 : Itr 0 j.toNat = Itr 0 (j - 0).toNat := by rw [Int.sub_zero]
      rw [e0]
      exact kk _ env1 h1.2.2 _ wd1 H1 le1 r1 walkD_range (upTo_len (by omega))
    · exact h1.elim⟩
def zipD (xs ys : List D) : List D := (xs.zip ys).map fun q => .tup [q.1, q.2]
def wZip (a b : W D) : W (List D) := a.bind fun x => b.bind fun y env Q _ => match x, y with
  | .tup xs, .tup ys => Q (zipD xs ys) env
  | .lst xs, .lst ys => Q (zipD xs ys) env
  | _, _ => False
theorem zipD_len (xs ys : List D) : (zipD xs ys).length = min xs.length ys.length := by
  unfold zipD
  rw [List.length_map, List.length_zip]
theorem yd_pair {K : PySem.W.Frag} {wd : Wd} {xs ys : List D} {us vs : List V} {i : Nat} {H H' : Hp} {x : V} (ru : Reps K wd us xs) (rv : Reps K wd vs ys) (y : YPair (fun i => us[i]?) (fun i => vs[i]?) i H x H') :
    ∃ d, (zipD xs ys)[i]? = some d ∧ YD K wd d H x H' := by
  obtain ⟨p, a, b, rfl, hp, rfl, e1, e2⟩ := y
  obtain ⟨d1, f1, r1⟩ := ru.getV e1
  obtain ⟨d2, f2, r2⟩ := rv.getV e2
  refine ⟨.tup [d1, d2], ?_, .inr (.inl ⟨p, [a, b], [d1, d2], rfl, hp, rfl, rfl, .cons r1 (.cons r2 .nil), by show 2 ≤ sizeLine; decide⟩)⟩
  unfold zipD
  rw [List.getElem?_map, List.getElem?_zip_eq_some.mpr (show xs[i]? = some ((d1, d2) : D × D).1 ∧ ys[i]? = some ((d1, d2) : D × D).2 from ⟨f1, f2⟩)]
  rfl
theorem ji_zip {e f : Expr} {w u : W D} {p pos tpos : Pos} {elts : List Expr} {kk : Nat} (hg : Gl X "zip") (hm : X.mg "zip" = none) (he : JE T X E e w) (hf : JE T X E f u) (hs : starEach [e, f] X.env = (false, eval e X.env) :: starEach [f] X.env := by rfl)
    (hs2 : starEach [f] X.env = (false, eval f X.env) :: starEach [] X.env := by rfl) (hpl : (backTo pos (starEach [f] X.env)).any (·.1) = false := by rfl) : JI T X E (.Tuple elts kk tpos) (.Call (.Name "zip" p) [e, f] [] pos) (wZip w u) :=
  piI (RZ.pi_zipA hg hm (pa_cons he (pa_cons hf pa_nil hs2) hs) hs hpl) fun σ H R ⟨c, wd, env, P, Ex, r, h, xo, kk⟩ => ⟨c, wd, env, _, Ex, r, h, xo, fun x env1 h1 v wd1 H1 le1 r1 rp1 => ⟨c, wd1, env1, _, Ex, r1, h1, xo, fun y env2 h2 u wd2 H2 le2 r2 rp2 => by
    have rp1 := Rep.mono le2 rp1
    dsimp only at h2
    split at h2
    · rename_i xs ys
      cases rp1 with
      | tup hs1 rs1 =>
        cases rp2 with
        | tup hs2 rs2 =>
          have q1 := sub_sqT (K := X.K) r2.good hs1
          refine ⟨_, _, _, _, rfl, .inr ⟨q1, sub_sqT r2.good hs2, kk _ env2 h2 _ wd2 H2 (le1.trans le2) r2 ?_ ?_⟩⟩
          · unfold WalkD
            rw [zipD_len, ← rs1.length, ← rs2.length]
            refine ⟨fun i H hi z => ?_, fun H z => ?_, fun i H x H' hi z y => ?_⟩
            · have l1 := Nat.lt_of_lt_of_le hi (Nat.min_le_left _ _)
              have l2 := Nat.lt_of_lt_of_le hi (Nat.min_le_right _ _)
              exact ⟨_, _, _, _, sqT_sub X.K z hs1, sqT_sub X.K z hs2, List.getElem?_eq_getElem l1, List.getElem?_eq_getElem l2⟩
            · exact ⟨_, _, sqT_sub X.K z hs1, sqT_sub X.K z hs2, by omega⟩
            · obtain ⟨p, a, b, e1, e2, e3, e4, e5⟩ := y
              exact yd_pair rs1 rs2 ⟨p, a, b, e1, e2, e3, e4 _ (sqT_sub X.K z hs1), e5 _ (sqT_sub X.K z hs2)⟩
          · rw [zipD_len, ← rs1.length]
            exact Nat.le_trans (Nat.min_le_left _ _) (siz_sqT r2.good hs1)
    · rename_i xs ys
      cases rp1 with
      | lst hs1 rs1 =>
        cases rp2 with
        | lst hs2 rs2 =>
          have q1 := sub_sqL (K := X.K) r2.good hs1
          refine ⟨_, _, _, _, rfl, .inl ⟨q1, sub_sqL r2.good hs2, kk _ env2 h2 _ wd2 H2 (le1.trans le2) r2 ?_ ?_⟩⟩
          · unfold WalkD
            rw [zipD_len, ← rs1.length, ← rs2.length]
            refine ⟨fun i H hi z => ?_, fun H z => ?_, fun i H x H' hi z y => ?_⟩
            · have l1 := Nat.lt_of_lt_of_le hi (Nat.min_le_left _ _)
              have l2 := Nat.lt_of_lt_of_le hi (Nat.min_le_right _ _)
              exact ⟨_, _, _, _, .inl (.inl (z _ _ hs1)), .inl (.inl (z _ _ hs2)), List.getElem?_eq_getElem l1, List.getElem?_eq_getElem l2⟩
            · exact ⟨_, _, .inl (.inl (z _ _ hs1)), .inl (.inl (z _ _ hs2)), by omega⟩
            · obtain ⟨p, a, b, e1, e2, e3, e4, e5⟩ := y
              exact yd_pair rs1 rs2 ⟨p, a, b, e1, e2, e3, e4 _ (.inl (.inl (z _ _ hs1))), e5 _ (.inl (.inl (z _ _ hs2)))⟩
          · rw [zipD_len, ← rs1.length]
            exact Nat.le_trans (Nat.min_le_left _ _) ((r2.good.ntb _ _ hs1).2)
    · exact h2.elim⟩⟩
theorem Rel.item {K : PySem.W.Frag} {c : Ctx} {wd wd1 : Wd} {env : PEnv} {σ : L2.St} {H H' : Hp} {d : D} {v : V} (r : Rel K T c wd1 env σ H) (le : Le wd wd1) (y : YD K wd d H v H') :
    ∃ wd2, Le wd1 wd2 ∧ Rel K T c wd2 env σ H' ∧ Rep K wd2 v d := by
  rcases y with ⟨rfl, rp⟩ | ⟨p, vs, ds, rfl, hp, rfl, rfl, rs, hz⟩ | ⟨p, vs, ds, rfl, hp, rfl, rfl, rs⟩ | ⟨p, q, n, vs, ds, rfl, hq, hp, pq, rfl, rfl, rs, hz⟩
  · exact ⟨wd1, Le.refl _, r, rp.mono le⟩
  · have l2 : Le wd1 (wd1.add p (.tup vs)) := Le.add (r.good.mnone hp)
    exact ⟨_, l2, r.grow (Grow.one hp noTb_tup hz), .tup upd_same (rs.mono (le.trans l2))⟩
  · obtain ⟨wd2, l2, r2, e⟩ := r.known hp
    exact ⟨wd2, l2, r2, .tup e (rs.mono (le.trans l2))⟩
  · have l2 : Le wd1 (wd1.add q (.tup vs)) := Le.add (r.good.mnone hq)
    have r2 := r.grow (Grow.one hq noTb_tup hz)
    have hp2 : upd H q (.tup vs) p = none := (upd_ne pq).trans hp
    have l3 : Le (wd1.add q (.tup vs)) ((wd1.add q (.tup vs)).add p (.tup [.int n, .ref q])) := Le.add (r2.good.mnone hp2)
    have inner : Rep K (wd1.add q (.tup vs)) (.ref q) (.tup ds) := .tup upd_same (rs.mono (le.trans l2))
    exact ⟨_, l2.trans l3, r2.grow (Grow.one hp2 noTb_tup (show (2 : Nat) ≤ sizeLine by decide)), .tup upd_same (.cons (.int n) (.cons (inner.mono l3) .nil))⟩
def forW (g : WG) (b : (PEnv → Prop) → PEnv → Prop) (fin : PEnv → Prop) : List D → PEnv → Prop
  | [], env => fin env
  | x :: xs, env => g x env fun env' => b (forW g b fin xs) env'
def sFor (it : W (List D)) (g : WG) (b : WS) : WS := fun pe env => it env (fun xs env' => forW g (fun nx => b { pe with nx := nx, ct := nx, bk := pe.nx }) pe.nx xs env') pe.ex
theorem js_for {iter : Expr} {body : List Stmt} {w : W (List D)} {g : WG} {b : WS} {pos : Pos} (B : Bd X E k) {us : List Nat} (hi : JI T X E tg iter w) (hg : JG T X us tg g) (hb : JSs T X E body b) (hs : ∀ x, foldedSetIterable iter X.env x = pure x := by intro _; rfl) :
    JS T X E (.For tg iter body [] pos) (sFor w g b) :=
  psI (ps_for B.own B.calm hi hg hb hs) fun D σ H ⟨c, wd, env, pe, r, h, o⟩ => ⟨c, wd, env, _, _, r, h, o.ex, fun xs env1 h1 J wd1 H1 le1 r1 wk hz => by
    refine for_it wk (fun i σ' H' => ∃ wd' env', Le wd1 wd' ∧ Rel X.K T c wd' env' σ' H' ∧ forW g (fun nx => b { pe with nx := nx, ct := nx, bk := pe.nx }) pe.nx (xs.drop i) env') ⟨wd1, env1, Le.refl _, r1, h1⟩ (fun i σ' H' hi ⟨wd', env', le, r', _⟩ => le.m.trans r'.good.sub) ?_ ?_
    · rintro i x σ' H2 H3 hl ⟨wd', env', le, r', f⟩ ⟨d, ed, y⟩
      obtain ⟨wd2, le2, r2, rp⟩ := r'.item le y
      have e : xs.drop i = d :: xs.drop (i + 1) := by
        obtain ⟨hi, e'⟩ := List.getElem?_eq_some_iff.mp ed
        rw [List.drop_eq_getElem_cons hi, e']
      rw [e] at f
      refine ⟨c, wd2, env', d, _, r2, rp, f, fun env2 f2 σ2 r3 _ => ⟨c, wd2, env2, _, r3, f2, ⟨o.ex, ?_, o.rt, ?_, ?_⟩⟩⟩
      · exact fun env3 f3 σ3 wd3 H4 le3 r4 => ⟨wd3, env3, (le.trans le2).trans le3, r4, f3⟩
      · exact fun env3 f3 σ3 wd3 H4 le3 r4 => o.nx env3 f3 σ3 wd3 H4 (((le1.trans le).trans le2).trans le3) r4
      · exact fun env3 f3 σ3 wd3 H4 le3 r4 => ⟨wd3, env3, (le.trans le2).trans le3, r4, f3⟩
    · rintro σ' H2 ⟨wd', env', le, r', f⟩
      rw [List.drop_length] at f
      exact o.nx env' f σ' wd' H2 (le1.trans le) r'⟩
end
end Pd

namespace Pd
open PySem PySem.Spec PyProof.Rows L2 LamX

def wipeE (env : PEnv) : List Nat → PEnv
  | [] => env
  | v :: vs => (wipeE env vs).set v none
def keepD : Option Sl → Option Sl
  | some (.d x) => some (.d x)
  | _ => none
def restE (env0 env : PEnv) : List Nat → PEnv
  | [] => env
  | v :: vs => (restE env0 env vs).set v (keepD (gt env0 v))
def compW (g : WG) (t : W Bool) (e : W D) (vs : List Nat) (Q : List D → PEnv → Prop) : List D → PEnv → List D → Prop
  | [], env, acc => Q acc env
  | x :: xs, env, acc => g x (wipeE env vs) fun env1 => t env1 (fun b env2 => br b (e env2 (fun y env3 => compW g t e vs Q xs env3 (acc ++ [y])) (fun _ => False)) (compW g t e vs Q xs env2 acc)) (fun _ => False)
def wComp (it : W (List D)) (g : WG) (t : W Bool) (e : W D) (vs : List Nat) : W (List D) := it.bind fun xs env Q _ => compW g t e vs (fun ys env' => Q ys (restE env env' vs)) xs env []
theorem wipeE_length (env : PEnv) : ∀ vs, (wipeE env vs).length = env.length
  | [] => rfl
  | v :: vs => by
    show ((wipeE env vs).set v none).length = env.length
    rw [List.length_set, wipeE_length env vs]
theorem wipeE_some {env : PEnv} {i : Nat} {s : Sl} : ∀ {vs : List Nat}, (wipeE env vs)[i]? = some (some s) → env[i]? = some (some s) ∧ i ∉ vs
  | [], h => ⟨h, by simp⟩
  | v :: vs, h => by
    have h' : ((wipeE env vs).set v none)[i]? = some (some s) := h
    rcases get_set h' with ⟨rfl, z, _⟩ | ⟨ne, z⟩
    · cases z
    · obtain ⟨a, b⟩ := wipeE_some z
      exact ⟨a, fun y => (List.mem_cons.mp y).elim (fun y => ne y.symm) b⟩
theorem restE_length (env0 env : PEnv) : ∀ vs, (restE env0 env vs).length = env.length
  | [] => rfl
  | v :: vs => by
    show ((restE env0 env vs).set v _).length = env.length
    rw [List.length_set, restE_length env0 env vs]
theorem restE_some {env0 env : PEnv} {i : Nat} {s : Sl} : ∀ {vs : List Nat}, (restE env0 env vs)[i]? = some (some s) → (i ∈ vs ∧ (∃ x, s = .d x) ∧ env0[i]? = some (some s)) ∨ (i ∉ vs ∧ env[i]? = some (some s))
  | [], h => .inr ⟨by simp, h⟩
  | v :: vs, h => by
    have h' : ((restE env0 env vs).set v (keepD (gt env0 v)))[i]? = some (some s) := h
    rcases get_set h' with ⟨rfl, z, _⟩ | ⟨ne, z⟩
    · left
      cases q : gt env0 v with
      | none =>
        rw [q] at z
        cases z
      | some u =>
        rw [q] at z
        cases u with
        | own xs => cases z
        | obj _ _ _ => cases z
        | cels _ => cases z
        | dct _ _ => cases z
        | d x =>
          have e : s = .d x := (Option.some.inj z).symm
          subst e
          exact ⟨List.mem_cons_self, ⟨x, rfl⟩, gt_eq _ _ q⟩
    · rcases restE_some z with ⟨a, b⟩ | ⟨a, b⟩
      · exact .inl ⟨List.mem_cons_of_mem _ a, b⟩
      · exact .inr ⟨fun y => (List.mem_cons.mp y).elim (fun y => ne y.symm) a, b⟩
theorem wipe_get {σ : L2.St} {i : Nat} : ∀ {vs : List Nat}, i ∉ vs → (wipe σ vs)[i]? = σ[i]?
  | [], _ => rfl
  | v :: vs, h => by
    show ((wipe σ vs).set v none)[i]? = σ[i]?
    rw [List.getElem?_set_ne (fun z => h (by rw [← z]; exact List.mem_cons_self)), wipe_get fun z => h (List.mem_cons_of_mem _ z)]
section
variable {K : PySem.W.Frag} {T : List (Addr × Str)} {c : Ctx} {wd wd' : Wd} {env env' : PEnv} {σ σ' : L2.St} {H H' : Hp}
theorem Rel.wipe (r : Rel K T c wd env σ H) (vs : List Nat) : Rel K T c wd (wipeE env vs) (L2.wipe σ vs) H := by
  refine ⟨r.ord, r.good, r.keep, by rw [wipeE_length, wipe_length]; exact r.len, fun i x e => ?_, fun i xs e => ?_, fun i j xs ys p e1 e2 e3 e4 => ?_, fun q hq => ?_, r.ext.sl (fun i s e _ _ => ⟨(wipeE_some e).1, wipe_get (wipeE_some e).2⟩) fun j ys e => .inl ⟨ys, (wipeE_some e).1, wipe_get (wipeE_some e).2⟩⟩
  · obtain ⟨e, hn⟩ := wipeE_some e
    rw [wipe_get hn]
    exact r.dat i x e
  · obtain ⟨e, hn⟩ := wipeE_some e
    rw [wipe_get hn]
    exact r.own i xs e
  · obtain ⟨e1, h1⟩ := wipeE_some e1
    obtain ⟨e2, h2⟩ := wipeE_some e2
    rw [wipe_get h1] at e3
    rw [wipe_get h2] at e4
    exact r.sep i j xs ys p e1 e2 e3 e4
  · obtain ⟨a, b, d, e⟩ := r.pin q hq
    refine ⟨a, b, d, fun i xs e1 => ?_, fun i cs e1 => e.c i cs (wipeE_some e1).1⟩
    obtain ⟨e1, h1⟩ := wipeE_some e1
    rw [wipe_get h1]
    exact e.o i xs e1
theorem Rel.rest {env0 : PEnv} {wd0 : Wd} {H0 : Hp} {vs : List Nat} (r0 : Rel K T c wd0 env0 σ H0) (le : Le wd0 wd) (r : Rel K T c wd (wipeE env vs) (L2.wipe σ vs) H) : Rel K T c wd (restE env0 env vs) σ H := by
  have inn : ∀ {i : Nat} {s : Sl}, i ∉ vs → env[i]? = some (some s) → (wipeE env vs)[i]? = some (some s) := fun {i s} => by
    induction vs with
    | nil => intro _ h; exact h
    | cons v vs ih =>
      intro hn h
      show ((wipeE env vs).set v none)[i]? = some (some s)
      rw [List.getElem?_set_ne (fun z => hn (by rw [← z]; exact List.mem_cons_self))]
      clear r r0
      have key : ∀ us : List Nat, i ∉ us → (wipeE env us)[i]? = env[i]? := fun us => by
        induction us with
        | nil => intro _; rfl
        | cons u us ih2 =>
          intro hu
          show ((wipeE env us).set u none)[i]? = env[i]?
          rw [List.getElem?_set_ne (fun z => hu (by rw [← z]; exact List.mem_cons_self)), ih2 fun z => hu (List.mem_cons_of_mem _ z)]
      rw [key vs fun z => hn (List.mem_cons_of_mem _ z)]
      exact h
  refine ⟨r.ord, r.good, r.keep, ?_, fun i x e => ?_, fun i xs e => ?_, fun i j xs ys p e1 e2 e3 e4 => ?_, fun q hq => ?_, r.ext.sl (fun i s e n1 n2 => ?_) fun j ys e => ?_⟩
  · have := r.len
    rw [wipeE_length, wipe_length] at this
    rw [restE_length]
    exact this
  · rcases restE_some e with ⟨_, _, e⟩ | ⟨hn, e⟩
    · obtain ⟨v, h1, h2⟩ := r0.dat i x e
      exact ⟨v, h1, h2.mono le⟩
    · obtain ⟨v, h1, h2⟩ := r.dat i x (inn hn e)
      rw [wipe_get hn] at h1
      exact ⟨v, h1, h2⟩
  · rcases restE_some e with ⟨_, ⟨x, z⟩, e⟩ | ⟨hn, e⟩
    · cases z
    · obtain ⟨p, us, h1, h2⟩ := r.own i xs (inn hn e)
      rw [wipe_get hn] at h1
      exact ⟨p, us, h1, h2⟩
  · rcases restE_some e1 with ⟨_, ⟨x, z⟩, e⟩ | ⟨hn1, e1⟩
    · cases z
    · rcases restE_some e2 with ⟨_, ⟨x, z⟩, e⟩ | ⟨hn2, e2⟩
      · cases z
      · exact r.sep i j xs ys p (inn hn1 e1) (inn hn2 e2) (by rw [wipe_get hn1]; exact e3) (by rw [wipe_get hn2]; exact e4)
  · obtain ⟨a, b, d, e⟩ := r.pin q hq
    refine ⟨a, b, d, fun i xs e1 => ?_, fun i cs e1 => ?_⟩
    · rcases restE_some e1 with ⟨_, ⟨x, z⟩, _⟩ | ⟨hn, e1⟩
      · cases z
      · have := e.o i xs (inn hn e1)
        rw [wipe_get hn] at this
        exact this
    · rcases restE_some e1 with ⟨_, ⟨x, z⟩, _⟩ | ⟨hn, e1⟩
      · cases z
      · exact e.c i cs (inn hn e1)
  · rcases restE_some e with ⟨_, ⟨x, z⟩, _⟩ | ⟨hn, e⟩
    · exact absurd z (n1 x)
    · exact ⟨inn hn e, (wipe_get hn).symm⟩
  · rcases restE_some e with ⟨_, ⟨x, z⟩, _⟩ | ⟨hn, e⟩
    · cases z
    · exact .inl ⟨ys, inn hn e, (wipe_get hn).symm⟩
theorem Rel.begin (r : Rel K T c wd env σ H) {p : Addr} (hp : H p = none) : Rel K T { c with pn := (p, []) :: c.pn } wd env σ (upd H p (.lst [])) := by
  obtain ⟨r1, q, vs, e, h1, h2, h3, h4, h5, h6, h7⟩ := r.fresh hp (vs := []) (xs := []) .nil (Nat.zero_le _)
  cases e
  refine ⟨r1.ord, r1.good, r1.keep, r1.len, r1.dat, r1.own, r1.sep, fun q hq => ?_, ⟨r1.ext.obj, r1.ext.ob1, r1.ext.cel, r1.ext.cnd, r1.ext.ce1, r1.ext.dct, r1.ext.dc1⟩⟩
  rcases List.mem_cons.mp hq with rfl | hq
  · exact ⟨upd_same, h2, h3, h6⟩
  · exact r1.pin q hq
theorem Rel.more {p : Addr} {us : List V} {pn : List (Addr × List V)} (r : Rel K T { c with pn := (p, us) :: pn } wd env σ H) (hc : Nt c.H p) (hq : ∀ q ∈ pn, q.1 ≠ p) (y : V) (hz : us.length < sizeLine) : Rel K T { c with pn := (p, us ++ [y]) :: pn } wd env σ (upd H p (.lst (us ++ [y]))) := by
  obtain ⟨h1, h2, h3, h4⟩ := r.pin (p, us) List.mem_cons_self
  have h1 : H p = some (.lst us) := h1
  have h2 : wd.M p = none := h2
  have h3 : p ∉ wd.B := h3
  have h4 : NoOwn env σ p := h4
  have hx : Ext K { c with pn := (p, us ++ [y]) :: pn } wd env σ H := ⟨r.ext.obj, r.ext.ob1, r.ext.cel, r.ext.cnd, r.ext.ce1, r.ext.dct, r.ext.dc1⟩
  refine ⟨r.ord, ⟨fun a o q => ?_, r.good.ntb, fun b hb => ?_, fun q hq => ?_, siz_upd r.good.siz (by show (us ++ [y]).length ≤ sizeLine; rw [List.length_append]; exact hz)⟩, ⟨fun a o q n t => ?_, fun a q => ?_⟩, r.len, r.dat, fun i xs e => ?_, r.sep, fun q hm => ?_, hx.updL h4.c h1⟩
  · rw [upd_ne (show a ≠ p from fun z => by rw [z, h2] at q; cases q)]
    exact r.good.sub a o q
  · obtain ⟨z1, g, s, c', z2, z3⟩ := r.good.box b hb
    exact ⟨z1, g, s, c', by rw [upd_ne (show b ≠ p from fun z => h3 (z ▸ hb))]; exact z2, z3⟩
  · obtain ⟨ps, z1, z2, z3⟩ := r.good.tab q hq
    refine ⟨ps, ?_, z2, fun pos cv hc => ?_⟩
    · rw [upd_ne (show q.1 ≠ p from fun z => by rw [z, h1] at z1; cases z1)]
      exact z1
    · obtain ⟨a, y1, y2⟩ := z3 pos cv hc
      refine ⟨a, y1, ?_⟩
      rw [upd_ne (show a ≠ p from fun z => by rw [z, h1] at y2; cases y2)]
      exact y2
  · have q' : c.H a = some o := q
    rw [upd_ne (show a ≠ p from fun z => hc.no (by rw [← z]; exact q') t)]
    exact r.keep.st a o q n t
  · by_cases ha : a = p
    · subst ha
      exact hc
    · exact r.keep.dm a (q.upd ha)
  · obtain ⟨q, ws, z1, z2, z3⟩ := r.own i xs e
    exact ⟨q, ws, z1, by rw [upd_ne (show q ≠ p from fun z => h4.o i xs e (by rw [← z]; exact z1))]; exact z2, z3⟩
  · rcases List.mem_cons.mp hm with rfl | hm
    · exact ⟨upd_same, h2, h3, h4⟩
    · obtain ⟨a, b, d, e⟩ := r.pin q (List.mem_cons_of_mem _ hm)
      exact ⟨by rw [upd_ne (hq q hm)]; exact a, b, d, e⟩
theorem Rel.done {p : Addr} {us : List V} {pn : List (Addr × List V)} (r : Rel K T { c with pn := (p, us) :: pn } wd env σ H) : Rel K T { c with pn := pn } wd env σ H :=
  ⟨r.ord, r.good, r.keep, r.len, r.dat, r.own, r.sep, fun q hq => r.pin q (List.mem_cons_of_mem _ hq), ⟨r.ext.obj, r.ext.ob1, r.ext.cel, r.ext.cnd, r.ext.ce1, r.ext.dct, r.ext.dc1⟩⟩
end
abbrev JTs (T : List (Addr × Str)) (X : Cx) (E : XK) (ifs : List Expr) (w : W Bool) : Prop := PTs X ifs (lift X.K T rT E w)
section
variable {X : Cx} {T : List (Addr × Str)} {E : XK} {k : Nat} {tg : Expr}
theorem ptsI {es : List Expr} {t t' : TT} (h : PTs X es t) (i : ∀ σ H Q, t' σ H Q → t σ H Q) : PTs X es t' := ⟨fun pins s σ H Q I q => h.run pins s σ H Q I (i σ H Q q)⟩
theorem jts_nil : JTs T X E [] (W.ret true) := ptsI pts_nil fun σ H Q ⟨c, wd, env, P, Ex, r, h, _, k⟩ => k true env h true wd H (Le.refl _) r rfl
theorem jts_one {e : Expr} {w : W Bool} (h : JT T X E e w) : JTs T X E [e] w := pts_one h
theorem xok0 {K : PySem.W.Frag} {c : Ctx} {E : XK} : XOk K T c E (fun _ => False) := fun _ h => h.elim
theorem lc_lift {w : W (List D)} {g : WG} {wt : W Bool} {we : W D} {vs : List Nat} {σ : L2.St} {H : Hp} {Q : VK} (h : lift X.K T (rF X.K) E (wComp w g wt we vs) σ H Q) :
    tLc (liftI X.K T E w) (liftG X.K T vs g) (lift X.K T rT E0 wt) (lift X.K T (rE X.K) E0 we) vs σ H Q := by
  obtain ⟨c, wd, env, P, Ex, r, h, xo, kk⟩ := h
  refine ⟨c, wd, env, _, Ex, r, h, xo, fun xs env1 h1 J wd1 H1 le1 r1 wk hz Dl hD => ?_⟩
  have hc : Nt c.H Dl := r1.keep.dm Dl (Nt.of hD)
  have hq : ∀ q ∈ c.pn, q.1 ≠ Dl := fun q hm z => by
    have := (r1.pin q hm).1
    rw [z, hD] at this
    cases this
  refine lc_it wk (fun i H' => ∃ wd' env' acc us, Le wd1 wd' ∧ Rel X.K T { c with pn := (Dl, us) :: c.pn } wd' (wipeE env' vs) (L2.wipe σ vs) H' ∧ Reps X.K wd' us acc ∧ us.length ≤ i ∧ compW g wt we vs (fun ys env' => P ys (restE env1 env' vs)) (xs.drop i) env' acc)
    ⟨wd1, env1, [], [], Le.refl _, (r1.wipe vs).begin hD, .nil, Nat.le_refl _, h1⟩ (fun i H' hi ⟨wd', env', acc, us, le, r', _⟩ => le.m.trans r'.good.sub) ?_ ?_
  · rintro i x H2 H3 hl ⟨wd', env', acc, us, le, r', ru, hi, f⟩ ⟨d, ed, y⟩
    obtain ⟨wd2, le2, r2, rp⟩ := r'.item le y
    have e : xs.drop i = d :: xs.drop (i + 1) := by
      obtain ⟨hi, e'⟩ := List.getElem?_eq_some_iff.mp ed
      rw [List.drop_eq_getElem_cons hi, e']
    rw [e] at f
    refine ⟨_, wd2, _, d, _, r2, rp, f, fun env2 f2 σ2 r3 ew => ?_⟩
    have ew2 : L2.wipe (L2.wipe σ vs) vs = L2.wipe σ vs := by
      have key : ∀ us : List Nat, (∀ i ∈ us, i ∈ vs) → L2.wipe (L2.wipe σ vs) us = L2.wipe σ vs := fun us => by
        induction us with
        | nil => intro _; rfl
        | cons u us ih =>
          intro hu
          show (L2.wipe (L2.wipe σ vs) us).set u none = L2.wipe σ vs
          rw [ih fun i hi => hu i (List.mem_cons_of_mem _ hi)]
          refine List.ext_getElem? fun j => ?_
          by_cases hj : u = j
          · subst hj
            by_cases hl : u < (L2.wipe σ vs).length
            · rw [List.getElem?_set_self hl]
              cases q : (L2.wipe σ vs)[u]? with
              | none =>
                have := List.getElem?_eq_none_iff.mp q
                omega
              | some o =>
                cases o with
                | none => rfl
                | some v => exact absurd (hu u List.mem_cons_self) (wipe_some q).2
            · rw [List.set_eq_of_length_le (by omega)]
          · rw [List.getElem?_set_ne hj]
      exact key vs fun _ h => h
    refine ⟨ew.trans ew2, ?_⟩
    have ew3 : L2.wipe σ2 vs = L2.wipe σ vs := ew.trans ew2
    refine ⟨_, wd2, env2, _, _, r3, f2, xok0, fun b env3 f3 bb wd3 H4 le3 r4 eb => ?_⟩
    obtain rfl : bb = b := eb
    have nxt : ∀ {wd4 : Wd} {env4 : PEnv} {H5 : Hp}, Rel X.K T { c with pn := (Dl, us) :: c.pn } wd4 env4 σ2 H5 → Rel X.K T { c with pn := (Dl, us) :: c.pn } wd4 (wipeE env4 vs) (L2.wipe σ vs) H5 := fun {wd4 env4 H5} z => by
      have := z.wipe vs
      rw [ew3] at this
      exact this
    cases bb with
    | false => exact ⟨wd3, env3, acc, us, (le.trans le2).trans le3, nxt r4, ru.mono (le2.trans le3), Nat.le_succ_of_le hi, br_f f3⟩
    | true =>
      show lift X.K T (rE X.K) E0 we σ2 H4 _
      refine ⟨_, wd3, env3, _, _, r4, br_t f3, xok0, fun y1 env4 f4 yv wd4 H5 le4 r5 rp5 => ?_⟩
      have hlt : us.length < sizeLine := Nat.lt_of_le_of_lt hi (Nat.lt_of_lt_of_le hl hz)
      refine ⟨us, (r5.pin (Dl, us) List.mem_cons_self).1, hlt, wd4, env4, acc ++ [y1], us ++ [yv], ((le.trans le2).trans le3).trans le4, ?_, ?_, ?_, f4⟩
      · exact (nxt r5).more hc hq yv hlt
      · exact ((ru.mono (le2.trans le3)).mono le4).append (.cons rp5 .nil)
      · rw [List.length_append]
        exact Nat.succ_le_succ hi
  · rintro H2 ⟨wd', env', acc, us, le, r', ru, hi, f⟩
    rw [List.drop_length] at f
    obtain ⟨p1, p2, p3, p4⟩ := r'.pin (Dl, us) List.mem_cons_self
    have r6 : Rel X.K T c wd' (restE env1 env' vs) σ H2 := Rel.rest r1 le r'.done
    have w0 : ∀ {i : Nat} {s : Sl}, i ∉ vs → env'[i]? = some (some s) → (wipeE env' vs)[i]? = some (some s) := fun {i s} hn e => by
      have key : ∀ us : List Nat, i ∉ us → (wipeE env' us)[i]? = env'[i]? := fun us => by
        induction us with
        | nil => intro _; rfl
        | cons u us ih2 =>
          intro hu
          show ((wipeE env' us).set u none)[i]? = env'[i]?
          rw [List.getElem?_set_ne (fun z => hu (by rw [← z]; exact List.mem_cons_self)), ih2 fun z => hu (List.mem_cons_of_mem _ z)]
      rw [key vs hn]
      exact e
    refine kk acc _ f (.ref Dl) wd' H2 (le1.trans le) r6 ⟨Dl, us, rfl, p1, p2, p3, hc, ru, ⟨fun i ys e => ?_, fun i cs e => ?_⟩, hq⟩
    · rcases restE_some e with ⟨_, ⟨x, z⟩, _⟩ | ⟨hn, e⟩
      · cases z
      · intro z
        exact p4.o i ys (w0 hn e) (by rw [wipe_get hn]; exact z)
    · rcases restE_some e with ⟨_, ⟨x, z⟩, _⟩ | ⟨hn, e⟩
      · cases z
      · exact p4.c i cs (w0 hn e)
theorem jf_comp {elt iter : Expr} {ifs : List Expr} {scope : Scope} (own : List (Str × Nat)) {pos : Pos} {w : W (List D)} {g : WG} {wt : W Bool} {we : W D} (B : Bd X E k) (hi : JI T X E tg iter w) (ok : BlkOk X.N X.env.scope scope own)
    (hg : ∀ (s : Shared) (H : Hp) (C : Addr) (cl : List (Str × Addr)) (fp : List Addr), JG T (X.blk s H scope (compEnvC scope cl C X.env) fp) (own.map (·.2)) tg g)
    (ht : ∀ (s : Shared) (H : Hp) (C : Addr) (cl : List (Str × Addr)) (fp : List Addr), Bd (X.blk s H scope (compEnvC scope cl C X.env) fp) E0 k → JTs T (X.blk s H scope (compEnvC scope cl C X.env) fp) E0 ifs wt)
    (he : ∀ (s : Shared) (H : Hp) (C : Addr) (cl : List (Str × Addr)) (fp : List Addr), Bd (X.blk s H scope (compEnvC scope cl C X.env) fp) E0 k → JE T (X.blk s H scope (compEnvC scope cl C X.env) fp) E0 elt we)
    (hs : ∀ x, foldedSetIterable iter X.env x = pure x := by intro _; rfl) : JF T X E (.ListComp elt [⟨tg, iter, ifs, 0⟩] scope pos) (wComp w g wt we (own.map (·.2))) := by
  have Bb : ∀ (s : Shared) (H : Hp) (C : Addr) (cl : List (Str × Addr)) (fp : List Addr), Bd (X.blk s H scope (compEnvC scope cl C X.env) fp) E0 k := fun s H C cl fp => ⟨B.room, passL, PassesOwn.never, B.calm, B.nd⟩
  exact peI (pe_lc B.calm B.nd hi ok hg (fun s H C cl fp => ht s H C cl fp (Bb s H C cl fp)) (fun s H C cl fp => he s H C cl fp (Bb s H C cl fp)) hs) fun σ H Q h => lc_lift h
end
end Pd

namespace Pd
open PySem PySem.Spec PyProof.Rows L2 LamX

abbrev Fn := List D → (D → Prop) → (Xc → Prop) → Prop
def spec (K : PySem.W.Frag) (T : List (Addr × Str)) (F : Fn) : Sp := fun vs H Q E => ∃ (wd : Wd) (ds : List D) (P : D → Prop) (Ex : Xc → Prop), Good T wd H ∧ Reps K wd vs ds ∧ F ds P Ex ∧ XOk K T ⟨wd, H, []⟩ E Ex ∧
  ∀ d, P d → ∀ (v : V) (wd' : Wd) (H' : Hp), Ord wd wd' H → Good T wd' H' → Keep wd H H' → Rep K wd' v d → Q v H'
structure DefOk (P : Program) (w : World) (K : PySem.W.Frag) (mg : Str → Option Value) (base : Heap) (T : List (Addr × Str)) (x : Str) (k : Nat) (ps : List Str) (F : Fn) : Prop where
  ex : ∃ (f : Addr) (fd : FuncData), mg x = some (.ref f) ∧ PySem.W.keepIn K (.ref f) = true ∧ Binds K fd ps [] ∧ FnOk P w K mg base (L2.CX P w) k f fd ps (spec K T F) ∧ ∃ oc od osl, K.lookup f = some ⟨oc, od, .func fd, osl⟩
theorem DefOk.up {P : Program} {w : World} {K : PySem.W.Frag} {mg : Str → Option Value} {base : Heap} {T : List (Addr × Str)} {x : Str} {j k : Nat} {ps : List Str} {F : Fn} (d : DefOk P w K mg base T x j ps F) (h : j ≤ k) : DefOk P w K mg base T x k ps F := by
  obtain ⟨f, fd, a, b, c, e⟩ := d.ex
  exact ⟨f, fd, a, b, c, e.1.mono h, e.2⟩
section
variable {X : Cx} {T : List (Addr × Str)} {E : XK} {k : Nat}
def wCall (F : Fn) (a : W (List D)) : W D := a.bind fun ds env Q ex => F ds (fun d => Q d env) ex
theorem XOk.into {K : PySem.W.Frag} {c : Ctx} {E : XK} {Ex : Xc → Prop} {wd : Wd} {H : Hp} (x : XOk K T c E Ex) (o : Ord c.wd wd c.H) (kp : Keep c.wd c.H H) : XOk K T ⟨wd, H, []⟩ E Ex :=
  fun y hy cl dd wd' H' o' g' k' r => x y hy cl dd wd' H' (o.trans o' kp) g' (kp.trans o k') r
theorem lift_call {F : Fn} {a : W (List D)} {σ : L2.St} {H : Hp} {Q : VK} (h : lift X.K T (rE X.K) E (wCall F a) σ H Q) : tCall (spec X.K T F) [] E (lift X.K T (rA X.K) E a) σ H Q := by
  obtain ⟨c, wd, env, P, Ex, r, h, xo, kk⟩ := h
  refine ⟨c, wd, env, _, Ex, r, h, xo, fun ds env1 h1 vs wd1 H1 le1 r1 rp1 => ?_⟩
  show spec X.K T F (vs ++ []) H1 Q E
  rw [List.append_nil]
  exact ⟨wd1, ds, _, Ex, r1.good, rp1, h1, xo.into r1.ord r1.keep, fun d hd v wd2 H2 o2 g2 k2 rp2 => kk d env1 hd v wd2 H2 (le1.trans o2.le) (r1.go o2 g2 k2) rp2⟩
theorem je_call {x : Str} {ps : List Str} {F : Fn} {e : Expr} {es : List Expr} {a : W (List D)} {p pos : Pos} {j : Nat} (B : Bd X E k) (G : DefOk X.prog X.w X.K X.mg X.base T x j ps F) (ha : JA T X E (e :: es) a) (hj : j ≤ k := by decide) (hg : Gl X x := by rfl)
    (hdb : (x == ("__debug__" : Str)) = false := by decide) (he : starEach (e :: es) X.env = (false, eval e X.env) :: starEach es X.env := by rfl) (hpl : (backTo pos (starEach es X.env)).any (·.1) = false := by rfl) : JE T X E (.Call (.Name x p) (e :: es) [] pos) (wCall F a) := by
  obtain ⟨f, fd, g1, g2, g3, g4⟩ := G.ex
  exact peI (pe_call g4.1 (B.room.mono hj) hg g1 g2 g3 .nil B.pass ha hdb he hpl) fun σ H Q h => lift_call h
end
def startE (N : List Str) (ds : List D) : PEnv := ds.map (fun d => some (.d d)) ++ List.replicate (N.length - ds.length) none
section
variable {K : PySem.W.Frag} {T : List (Addr × Str)}
theorem reps_map {wd : Wd} {vs : List V} {ds : List D} (r : Reps K wd vs ds) {i : Nat} {s : Sl} (n : Nat) (h : (ds.map (fun d => some (Sl.d d)) ++ List.replicate n none)[i]? = some (some s)) :
    ∃ d v, s = .d d ∧ (vs.map some ++ List.replicate n none)[i]? = some (some v) ∧ Rep K wd v d := by
  by_cases hi : i < ds.length
  · rw [List.getElem?_append_left (by simpa using hi), List.getElem?_map] at h
    cases e : ds[i]? with
    | none =>
      rw [e] at h
      cases h
    | some d =>
      rw [e] at h
      cases h
      obtain ⟨v, e1, r1⟩ := r.get e
      refine ⟨d, v, rfl, ?_, r1⟩
      rw [List.getElem?_append_left (by rw [List.length_map, r.length]; exact hi), List.getElem?_map, e1]
      rfl
  · rw [List.getElem?_append_right (by simpa using hi), List.getElem?_replicate] at h
    split at h <;> cases h
theorem rel_start {wd : Wd} {H : Hp} {N : List Str} {vs : List V} {ds : List D} (g : Good T wd H) (r : Reps K wd vs ds) : Rel K T ⟨wd, H, []⟩ wd (startE N ds) (L2.start N vs) H := by
  have key : ∀ {i : Nat} {s : Sl}, (startE N ds)[i]? = some (some s) → ∃ d v, s = .d d ∧ (L2.start N vs)[i]? = some (some v) ∧ Rep K wd v d := fun {i s} h => by
    unfold startE at h
    unfold L2.start
    rw [r.length]
    exact reps_map r _ h
  refine ⟨Ord.refl _ _, g, Keep.refl _ _, ?_, fun i x e => ?_, fun i xs e => ?_, fun i j xs ys p e1 e2 e3 e4 => ?_, fun q hq => absurd hq (by simp), ⟨fun i p C fs e => ?_, fun i j p p' C C' fs gs e _ => ?_, fun i cs e => ?_, fun i cs e => ?_, fun i j cs ds e _ => ?_, fun i lk kvs e => ?_, fun i j lk lk' ks ls p e _ _ _ => ?_⟩⟩
  · unfold startE L2.start
    rw [List.length_append, List.length_append, List.length_map, List.length_map, List.length_replicate, List.length_replicate, r.length]
  · obtain ⟨d, v, z, h1, h2⟩ := key e
    cases z
    exact ⟨v, h1, h2⟩
  · obtain ⟨d, v, z, _⟩ := key e
    cases z
  · obtain ⟨d, v, z, _⟩ := key e1
    cases z
  all_goals
    obtain ⟨d, v, z, _⟩ := key e
    cases z
end
def dEnds (P : D → Prop) (Ex : Xc → Prop) : PEnds := { nx := fun _ => P .non, rt := P, ex := Ex }
section
variable {P : Program} {w : World} {K : PySem.W.Frag} {mg : Str → Option Value} {base : Heap} {T : List (Addr × Str)}
theorem def_ok {x : Str} {ag : Arguments} {body : List Stmt} {scope : Scope} {f : Addr} {fd : FuncData} {N ps : List Str} {k : Nat} {F : Fn} (D : FunD K x x ag body scope [] [] f fd) (S : FnScope N ps scope) (gm : mg x = some (.ref f)) (bn : Binds K fd ps [])
    (len : ∀ ds Q Ex, F ds Q Ex → ds.length = ps.length)
    (hd : ∀ (cdv : Value) (A : Around) (outer : List Env) (s : Shared) (H : Hp) (E : XK), Bd (cxOf (L2.CX P w) P w K mg base N x scope f cdv A outer s H E) E k → Takes (cxOf (L2.CX P w) P w K mg base N x scope f cdv A outer s H E) (fun cls d _ H => E cls d H) →
      ∃ wb, JSs T (cxOf (L2.CX P w) P w K mg base N x scope f cdv A outer s H E) E body wb ∧ ∀ ds Q Ex, F ds Q Ex → wb (dEnds Q Ex) (startE N ds)) : DefOk P w K mg base T x (k + 1) ps F := by
  refine ⟨f, fd, gm, D.kp, bn, ?_, by
    obtain ⟨oc, od, dV, kV, doc, pm, an, cdv, ct, osl, _, lk, _⟩ := D.ex
    exact ⟨oc, od, osl, lk⟩⟩
  refine D.ok S (fun vs H Q E h => ?_) (fun cdv A outer s H vs Q E hr h => ?_)
  · obtain ⟨wd, ds, P, Ex, _, r, h, _⟩ := h
    rw [r.length]
    exact len _ _ _ h
  · obtain ⟨wd, ds, P1, Ex, g, r, h, xo, kk⟩ := h
    have tk : Takes (cxOf (L2.CX P w) P w K mg base N x scope f cdv A outer s H E) (fun cls d _ H => E cls d H) := takes_of rfl rfl rfl rfl
    have B : Bd (cxOf (L2.CX P w) P w K mg base N x scope f cdv A outer s H E) E k := ⟨hr, passes_call tk fun _ _ _ _ h => h, passes_of rfl, rfl, S.nd⟩
    obtain ⟨wb, hj, hw⟩ := hd cdv A outer s H E B tk
    refine ⟨_, hj, ⟨wd, H, []⟩, wd, startE N ds, dEnds P1 Ex, rel_start g r, hw ds P1 Ex h, ⟨xo, fun env' hn σ' wd' H' le r' => ?_, fun d hd v wd' H' o' g' k' rp => kk d hd v wd' H' o' g' k' rp, fun _ z => z.elim, fun _ z => z.elim⟩⟩
    exact kk .non hn .non wd' H' r'.ord r'.good r'.keep .non
end
end Pd

namespace Pd
open PySem PySem.Spec PyProof.Rows L2 LamX

abbrev tupO (dd : Option Addr) (sl : Array (Option Value)) (items : Array Value) (n : Nat) : Obj := { cls := .type "tuple", dict := dd, data := .seq items n, slots := sl }
theorem mul_road {X : Cx} {pins : List (Addr × Obj)} {σ : L2.St} {s : Shared} {l : Addr} {k : Int} {t : Tok} {items : Array Value} {n : Nat} {dd : Option Addr} {sl : Array (Option Value)} {Q : VK} {S : PySem.Spec}
    (at_ : s.heap.get? l = some (tupO dd sl items n)) (own : Meets (Builtin.«tuple.__mul__» ⟨[.ref l, .int k t], []⟩) S)
    (told : S X.A (wants (EP X pins σ Q) X.xe) s) : wpAny (model X.prog X.w) X.A (binaryOp .Mult (.ref l) (.int k t)) (EP X pins σ Q) X.xe s := by
  have ty : s.TypeIs (.ref l) "tuple" := ⟨_, at_, rfl⟩
  have num : ∀ s' : Shared, s'.TypeIs (.int k t) "int" := fun s' => typeIs_int s' k t
  apply wpAny_binaryOp_repeat_ref (by decide) ty num noFill_tuple_mul F.fills_int_mul F.slot_int_rmul repeat_tuple F.slot_int_index.lookup
  apply call_meets F.slot_int_rmul (num s) F.entry_int_rmul (F.args_int_rmul_2 _ _) (int_rmul_tuple k t l items n dd sl)
  exact ⟨at_, rfl, ty, call_meets F.slot_tuple_mul ty F.entry_tuple_mul (F.args_tuple_mul_2 _ _) own told⟩
theorem mul_none {l : Addr} {items : Array Value} {n : Nat} {dd : Option Addr} {sl : Array (Option Value)} {k : Int} {u : Tok} (full : items.isEmpty = false) (k0 : k ≤ 0) (k1 : -1000 ≤ k) :
    Meets (Builtin.«tuple.__mul__» ⟨[.ref l, .int k u], []⟩) fun _ R s => s.heap.get? l = some (tupO dd sl items n) ∧ R (.ok (.ret (.ref s.heap.objs.size))) { s with heap := s.heap.push { cls := .type "tuple", data := .seq #[] } } := by
  apply Meets.of_wp
  rintro prog w A R ⟨hp, g, d, tk, os⟩ ⟨at_, told⟩
  have small : ¬ ((decide (k < -(2 ^ 63)) || decide (k ≥ 2 ^ 63)) = true) := by simp; omega
  have other : ¬ ((items.isEmpty || k == 1) = true) := by simp [full]; omega
  have none_ : (decide (k ≤ 0) || items.isEmpty) = true := by simp [k0]
  have ix := AutoSeq1.idx_int
  wp_walk using AutoSeq1.wpAny_loadPart' at_
  repeat (first
    | (apply wpAny_ite_false (decide_eq_false small); wp_walk using AutoSeq1.wpAny_loadPart' at_)
    | (apply wpAny_ite_false (decide_eq_false other); wp_walk using AutoSeq1.wpAny_loadPart' at_)
    | (apply wpAny_ite_true (decide_eq_true none_); wp_walk using AutoSeq1.wpAny_loadPart' at_))
  exact ⟨_, rfl, told⟩
def rRepN (K : PySem.W.Frag) : R2 := fun x y H Q => ∃ l k xs, x = .ref l ∧ y = .int k ∧ SqT K H l xs ∧ xs ≠ [] ∧ k ≤ 0 ∧ -1000 ≤ k ∧ ∀ p, H p = none → Q (.ref p) (upd H p (.tup []))
theorem op_repN {X : Cx} : OpR X (binaryOp .Mult) (rRepN X.K) := by
  intro pins s σ H x y v u Q I rx ry
  rintro ⟨l, k, xs, rfl, rfl, hT, some_, k0, k1, q⟩
  cases rx
  obtain ⟨t, rfl⟩ := ry
  obtain ⟨its, same, ⟨⟨_, dd, _, sl⟩, at_, rfl, n, rfl⟩, _⟩ := I.tuple hT
  have full : its.toArray.isEmpty = false := by
    cases same
    · exact (some_ rfl).elim
    · rfl
  have fresh : H s.heap.objs.size = none := I.hok.fresh (Nat.le_refl _)
  have laid := I.laid (t' := s.toks) (h' := s.heap.push { cls := .type "tuple", data := .seq #[] }) (o := .tup []) (fun _ _ e => Heap.get?_push_of_some _ e) (Nat.le_refl _) ⟨Nat.zero_le _, [], .nil, IsTup.new _ _⟩
  exact mul_road at_ (mul_none full k0 k1) ⟨at_, .ref s.heap.objs.size, _, laid, rfl, q _ fresh⟩
theorem mul_once {l : Addr} {items : Array Value} {n : Nat} {dd : Option Addr} {sl : Array (Option Value)} {u : Tok} :
    Meets (Builtin.«tuple.__mul__» ⟨[.ref l, .int 1 u], []⟩) fun _ R s => s.heap.get? l = some (tupO dd sl items n) ∧ R (.ok (.ret (.ref l))) s := by
  apply Meets.of_wp
  rintro prog w A R ⟨hp, g, d, tk, os⟩ ⟨at_, told⟩
  have ix := AutoSeq1.idx_int
  wp_walk using AutoSeq1.wpAny_loadPart' at_
  exact ⟨_, rfl, told⟩
def rOne (K : PySem.W.Frag) : R2 := fun x y H Q => ∃ l xs, x = .ref l ∧ y = .int 1 ∧ SqT K H l xs ∧ Q (.ref l) H
theorem op_one {X : Cx} : OpR X (binaryOp .Mult) (rOne X.K) := by
  intro pins s σ H x y v u Q I rx ry
  rintro ⟨l, xs, rfl, rfl, hT, q⟩
  cases rx
  obtain ⟨t, rfl⟩ := ry
  obtain ⟨its, _, ⟨⟨_, dd, _, sl⟩, at_, rfl, n, rfl⟩, _⟩ := I.tuple hT
  exact mul_road at_ mul_once ⟨at_, .ref l, H, I, rfl, q⟩

def dAdd : D → D → Option D
  | .int a, .int b => some (.int (a + b))
  | .tup xs, .tup ys => if xs.length + ys.length ≤ 1000000 then some (.tup (xs ++ ys)) else none
  | .lst xs, .lst ys => if xs.length + ys.length ≤ 1000000 then some (.lst (xs ++ ys)) else none
  | .str x, .str y => if x.length + y.length ≤ 1000000 then some (.str (x ++ y)) else none
  | _, _ => none
def dSub : D → D → Option D
  | .int a, .int b => some (.int (a - b))
  | _, _ => none
def dMul : D → D → Option D
  | .int a, .int b => if (a.natAbs < 2 ^ 64 ∨ b.natAbs < 2 ^ 64) ∨ a.natAbs.log2 + b.natAbs.log2 < 1000000 then some (.int (a * b)) else none
  | .tup xs, .int k => if xs ≠ [] ∧ -1000 ≤ k ∧ k ≤ 1000 ∧ xs.length ≤ 1000 then some (.tup (List.replicate k.toNat xs).flatten) else none
  | .lst xs, .int k => if -1000000 ≤ k ∧ k ≤ 1000000 ∧ xs.length * k.toNat ≤ 1000000 then some (.lst (List.replicate k.toNat xs).flatten) else none
  | _, _ => none
def dDiv : D → D → Option D
  | .int a, .int b => if 0 < b ∧ b.natAbs.log2 < 9000 then some (.int (a / b)) else none
  | _, _ => none
def dMod : D → D → Option D
  | .int a, .int b => if 0 < b then some (.int (a % b)) else none
  | _, _ => none
def dPow : D → D → Option D
  | .int a, .int b => if 0 ≤ b ∧ (Builtin.Int.intBits a : Int) * b ≤ 2 ^ 27 then some (.int (a ^ b.toNat)) else none
  | _, _ => none
def dCmp (p : Int → Int → Bool) : D → D → Option D
  | .int a, .int b => some (.bl (p a b))
  | _, _ => none
abbrev dLt := dCmp fun a b => decide (a < b)
abbrev dLe := dCmp fun a b => decide (a ≤ b)
abbrev dGt := dCmp fun a b => decide (b < a)
abbrev dGe := dCmp fun a b => decide (b ≤ a)
mutual
def toPy : D → PyData
  | .bl b => .bool b
  | .int i => .int i
  | .str x => .str x
  | .tup xs => .tuple (toPys xs)
  | .lst xs => .list (toPys xs)
  | _ => .none
def toPys : List D → List PyData
  | [] => []
  | x :: xs => toPy x :: toPys xs
end
def plain : Nat → D → Bool
  | 0, _ => false
  | n + 1, d => match d with
    | .non => true
    | .bl _ => true
    | .int _ => true
    | .str x => PyData.strOk x
    | .tup xs => xs.all (plain n)
    | .lst xs => xs.all (plain n)
    | _ => false
mutual
def eqb : D → D → Bool
  | .non, .non => true
  | .bl a, .bl b => a == b
  | .bl a, .int j => (if a then 1 else 0) == j
  | .int i, .bl b => i == (if b then 1 else 0)
  | .int i, .int j => i == j
  | .str x, .str y => x == y
  | .lst xs, .lst ys => eqbs xs ys
  | .tup xs, .tup ys => eqbs xs ys
  | _, _ => false
def eqbs : List D → List D → Bool
  | [], [] => true
  | x :: xs, y :: ys => eqb x y && eqbs xs ys
  | _, _ => false
end
def dEq (x y : D) : Option D := if plain 60 x && plain 60 y then some (.bl (eqb x y)) else none
def dNe (x y : D) : Option D := if plain 60 x && plain 60 y then some (.bl (!eqb x y)) else none
theorem ite_some {α : Type} {c : Prop} [Decidable c] {a z : α} (h : (if c then some a else none) = some z) : c ∧ a = z := by
  split at h
  · exact ⟨by assumption, Option.some.inj h⟩
  · cases h
mutual
theorem plain_lay : ∀ (n : Nat) (d : D), plain n d = true → (toPy d).canLay0 = true ∧ (toPy d).depth ≤ n
  | 0, d, h => by cases h
  | n + 1, .non, _ => by simp [toPy, PyData.canLay0, PyData.depth]
  | n + 1, .bl b, _ => by simp [toPy, PyData.canLay0, PyData.depth]
  | n + 1, .int b, _ => by simp [toPy, PyData.canLay0, PyData.depth]
  | n + 1, .str b, h => by
    have h' : PyData.strOk b = true := h
    simp [toPy, PyData.canLay0, PyData.depth, h']
  | n + 1, .tup xs, h => by
    have h' : xs.all (plain n) = true := h
    obtain ⟨a, b⟩ := plains_lay n xs h'
    simp only [toPy, PyData.canLay0, PyData.depth]
    exact ⟨a, by omega⟩
  | n + 1, .lst xs, h => by
    have h' : xs.all (plain n) = true := h
    obtain ⟨a, b⟩ := plains_lay n xs h'
    simp only [toPy, PyData.canLay0, PyData.depth]
    exact ⟨a, by omega⟩
  | n + 1, .scr _, h => by cases h
  | n + 1, .dic _, h => by cases h
  | n + 1, .dit _, h => by cases h
  | n + 1, .ins _ _, h => by cases h
  | n + 1, .box _, h => by cases h
  | n + 1, .raw _, h => by cases h
  | n + 1, .cls _, h => by cases h
theorem plains_lay : ∀ (n : Nat) (ds : List D), ds.all (plain n) = true → PyData.canLayAll0 (toPys ds) = true ∧ PyData.depthAll (toPys ds) ≤ n
  | n, [], _ => by simp [toPys, PyData.canLayAll0, PyData.depthAll]
  | n, d :: ds, h => by
    rw [List.all_cons, Bool.and_eq_true] at h
    obtain ⟨a, b⟩ := plain_lay n d h.1
    obtain ⟨a2, b2⟩ := plains_lay n ds h.2
    simp only [toPys, PyData.canLayAll0, PyData.depthAll, a, a2, Bool.and_self, true_and]
    omega
end

mutual
theorem eqv_eqb : ∀ (n : Nat) (x y : D), plain n x = true → plain n y = true → PyData.eqv (toPy x) (toPy y) = eqb x y
  | 0, x, _, h, _ => by cases h
  | n + 1, .non, y, _, hy => by cases y <;> first | rfl | cases hy
  | n + 1, .bl b, y, _, hy => by cases y <;> first | rfl | cases hy
  | n + 1, .int b, y, _, hy => by cases y <;> first | rfl | cases hy
  | n + 1, .str b, y, _, hy => by cases y <;> first | rfl | cases hy
  | n + 1, .tup xs, y, hx, hy => by
    cases y <;> first | rfl | cases hy | exact eqvs_eqbs n xs _ hx hy
  | n + 1, .lst xs, y, hx, hy => by
    cases y <;> first | rfl | cases hy | exact eqvs_eqbs n xs _ hx hy
  | n + 1, .scr _, _, h, _ => by cases h
  | n + 1, .dic _, _, h, _ => by cases h
  | n + 1, .dit _, _, h, _ => by cases h
  | n + 1, .ins _ _, _, h, _ => by cases h
  | n + 1, .box _, _, h, _ => by cases h
  | n + 1, .raw _, _, h, _ => by cases h
  | n + 1, .cls _, _, h, _ => by cases h
theorem eqvs_eqbs : ∀ (n : Nat) (xs ys : List D), xs.all (plain n) = true → ys.all (plain n) = true → PyData.eqvAll (toPys xs) (toPys ys) = eqbs xs ys
  | n, [], [], _, _ => rfl
  | n, [], _ :: _, _, _ => rfl
  | n, _ :: _, [], _, _ => rfl
  | n, x :: xs, y :: ys, hx, hy => by
    rw [List.all_cons, Bool.and_eq_true] at hx hy
    show (PyData.eqv (toPy x) (toPy y) && PyData.eqvAll (toPys xs) (toPys ys)) = (eqb x y && eqbs xs ys)
    rw [eqv_eqb n x y hx.1 hy.1, eqvs_eqbs n xs ys hx.2 hy.2]
end
section
variable {K : PySem.W.Frag} {T : List (Addr × Str)} {wd : Wd} {H : Hp}
mutual
theorem rep_dp (g : Good T wd H) : ∀ (n : Nat) {v : V} {d : D}, plain n d = true → Rep K wd v d → Dp K H v (toPy d)
  | 0, _, _, h, _ => by cases h
  | n + 1, _, _, _, .non => .non
  | n + 1, _, _, _, .bl b => .bl b
  | n + 1, _, _, _, .int b => .int b
  | n + 1, _, _, _, .str b => .str b
  | n + 1, _, _, h, .tup hs rs => .tup (sub_sqT g hs) (reps_dp g n h rs)
  | n + 1, _, _, h, .lst hs rs => .lst (sub_sqL g hs) (reps_dp g n h rs)
  | n + 1, _, _, h, .scr _ => by cases h
  | n + 1, _, _, h, .dic _ _ _ => by cases h
  | n + 1, _, _, h, .dit _ _ _ => by cases h
  | n + 1, _, _, h, .ins _ _ _ => by cases h
  | n + 1, _, _, h, .box _ => by cases h
  | n + 1, _, _, h, .raw _ => by cases h
  | n + 1, _, _, h, .cls _ => by cases h
theorem reps_dp (g : Good T wd H) : ∀ (n : Nat) {vs : List V} {ds : List D}, ds.all (plain n) = true → Reps K wd vs ds → DpAll K H vs (toPys ds)
  | n, _, _, _, .nil => .nil
  | n, _, _, h, .cons a b => by
    rw [List.all_cons, Bool.and_eq_true] at h
    exact .cons (rep_dp g n h.1 a) (reps_dp g n h.2 b)
end
end
theorem plain_shaped {d : D} (h : plain 60 d = true) : SeqAt.shaped (toPy d) = true := by
  obtain ⟨a, b⟩ := plain_lay 60 d h
  unfold SeqAt.shaped
  rw [a, Bool.true_and]
  exact decide_eq_true (Nat.le_trans b (by decide))
section
variable {X : Cx}
theorem opD_eq (hu : X.A.units + 64 < cLine) : OpD X (compareOp .Eq) dEq := ⟨_, op_eqD hu, fun x y z e T wd H v u Q g rx ry d => by
  obtain ⟨h, rfl⟩ := ite_some e
  rw [Bool.and_eq_true] at h
  refine ⟨toPy x, toPy y, rep_dp g 60 h.1 rx, rep_dp g 60 h.2 ry, plain_shaped h.1, plain_shaped h.2, ?_⟩
  rw [eqv_eqb 60 x y h.1 h.2]
  exact d.now (.bl _)⟩
theorem opD_ne (hu : X.A.units + 64 < cLine) : OpD X (compareOp .NotEq) dNe := ⟨_, op_neD hu, fun x y z e T wd H v u Q g rx ry d => by
  obtain ⟨h, rfl⟩ := ite_some e
  rw [Bool.and_eq_true] at h
  refine ⟨toPy x, toPy y, rep_dp g 60 h.1 rx, rep_dp g 60 h.2 ry, plain_shaped h.1, plain_shaped h.2, ?_⟩
  rw [eqv_eqb 60 x y h.1 h.2]
  exact d.now (.bl _)⟩
theorem cmp_of {op : CmpOp} {p : Int → Int → Bool} (h : OpR X (compareOp op) (rI0 fun i j => .bl (p i j))) : OpD X (compareOp op) (dCmp p) := ⟨_, h, fun x y z e T wd H v u Q g rx ry d => by
  cases rx <;> first | cases e | skip
  cases ry <;> first | cases e | skip
  exact ⟨_, _, rfl, rfl, d.now (.bl _)⟩⟩
theorem opD_lt : OpD X (compareOp .Lt) dLt := cmp_of op_lt
theorem opD_le : OpD X (compareOp .LtE) dLe := cmp_of op_le
theorem opD_gt : OpD X (compareOp .Gt) dGt := cmp_of op_gt
theorem opD_ge : OpD X (compareOp .GtE) dGe := cmp_of op_ge
theorem opD_sub : OpD X (binaryOp .Sub) dSub := ⟨_, op_sub, fun x y z e T wd H v u Q g rx ry d => by
  cases rx <;> first | cases e | skip
  cases ry <;> first | cases e | skip
  exact ⟨_, _, rfl, rfl, d.now (.int _)⟩⟩
theorem opD_mod : OpD X (binaryOp .Mod) dMod := ⟨_, op_mod, fun x y z e T wd H v u Q g rx ry d => by
  cases rx <;> first | cases e | skip
  cases ry <;> first | cases e | skip
  obtain ⟨h, rfl⟩ := ite_some e
  exact ⟨_, _, rfl, rfl, h, d.now (.int _)⟩⟩
theorem opD_div : OpD X (binaryOp .FloorDiv) dDiv := ⟨_, op_fdivW, fun x y z e T wd H v u Q g rx ry d => by
  cases rx <;> first | cases e | skip
  cases ry <;> first | cases e | skip
  obtain ⟨h, rfl⟩ := ite_some e
  exact ⟨_, _, rfl, rfl, h, d.now (.int _)⟩⟩
theorem op_powB : OpR X (binaryOp .Pow) (rI (fun i j => 0 ≤ j ∧ (Builtin.Int.intBits i : Int) * j ≤ 2 ^ 27) fun i j => .int (i ^ j.toNat)) := opI fun _ _ _ _ _ _ _ hc q => pow_int hc.1 hc.2 q
theorem opD_pow : OpD X (binaryOp .Pow) dPow := ⟨_, op_powB, fun x y z e T wd H v u Q g rx ry d => by
  cases rx <;> first | cases e | skip
  cases ry <;> first | cases e | skip
  obtain ⟨h, rfl⟩ := ite_some e
  exact ⟨_, _, rfl, rfl, h, d.now (.int _)⟩⟩
theorem opD_add : OpD X (binaryOp .Add) dAdd := ⟨_, ((op_add.or op_catA).or op_cat).or op_add_str, fun x y z e T wd H v u Q g rx ry d => by
  cases rx with
  | int a =>
    cases ry with
    | int b =>
      cases e
      exact .inl (.inl (.inl ⟨_, _, rfl, rfl, d.now (.int _)⟩))
    | _ => cases e
  | str a =>
    cases ry with
    | str b =>
      obtain ⟨h, rfl⟩ := ite_some e
      exact .inr ⟨_, _, rfl, rfl, sz6 h, d.now (.str _)⟩
    | _ => cases e
  | tup h1 r1 =>
    cases ry with
    | tup h2 r2 =>
      obtain ⟨h, rfl⟩ := ite_some e
      have hz := sz6 h
      rw [← r1.length, ← r2.length] at hz
      refine .inl (.inl (.inr ⟨_, _, _, _, rfl, rfl, sub_sqT g h1, sub_sqT g h2, hz, fun z => ?_, fun _ z => ?_, fun _ _ p hp => ?_⟩))
      · rw [z] at r1
        cases r1
        exact d.now (.tup h2 r2)
      · rw [z] at r2
        cases r2
        rw [List.append_nil] at d
        exact d.now (.tup h1 r1)
      · exact d.tup g hp (r1.append r2) (by rw [List.length_append]; exact hz)
    | _ => cases e
  | lst h1 r1 =>
    cases ry with
    | lst h2 r2 =>
      obtain ⟨h, rfl⟩ := ite_some e
      have hz := sz6 h
      rw [← r1.length, ← r2.length] at hz
      exact .inl (.inr ⟨_, _, _, _, rfl, rfl, g.sub _ _ h1, g.sub _ _ h2, hz, fun p hp => d.lst g hp (r1.append r2) (by rw [List.length_append]; exact hz)⟩)
    | _ => cases e
  | _ => cases e⟩
theorem rep_len {α : Type} (n : Nat) (xs : List α) : (List.replicate n xs).flatten.length = n * xs.length := by
  induction n with
  | zero => simp
  | succ n ih =>
    rw [List.replicate_succ, List.flatten_cons, List.length_append, ih, Nat.succ_mul]
    omega
theorem rep_one {α : Type} (xs : List α) : (List.replicate (Int.toNat 1) xs).flatten = xs := by
  show (List.replicate 1 xs).flatten = xs
  rw [List.replicate_succ, List.replicate_zero, List.flatten_cons, List.flatten_nil, List.append_nil]
theorem opD_mul : OpD X (binaryOp .Mult) dMul := ⟨_, ((((op_mul.or op_mulW).or op_repT).or op_rep).or op_one).or op_repN, fun x y z e T wd H v u Q g rx ry d => by
  cases rx with
  | int a =>
    cases ry with
    | int b =>
      obtain ⟨h, rfl⟩ := ite_some e
      rcases h with h | h
      · refine .inl (.inl (.inl (.inl (.inl ⟨_, _, rfl, rfl, ?_, d.now (.int _)⟩))))
        rcases h with h | h
        · exact .inl ⟨by omega, by omega⟩
        · exact .inr ⟨by omega, by omega⟩
      · exact .inl (.inl (.inl (.inl (.inr ⟨_, _, rfl, rfl, h, d.now (.int _)⟩))))
    | _ => cases e
  | tup h1 r1 =>
    cases ry with
    | int b =>
      obtain ⟨h, rfl⟩ := ite_some e
      obtain ⟨q1, q2, q3, q4⟩ := h
      by_cases q5 : b = 1
      · subst q5
        refine .inl (.inr ⟨_, _, rfl, rfl, sub_sqT g h1, d.now ?_⟩)
        rw [rep_one]
        exact .tup h1 r1
      by_cases q6 : b ≤ 0
      · rw [show b.toNat = 0 by omega] at d
        refine .inr ⟨_, _, _, rfl, rfl, sub_sqT g h1, fun z => ?_, q6, q2, fun p hp => d.tup g hp .nil (Nat.zero_le _)⟩
        rw [z] at r1
        cases r1
        exact q1 rfl
      refine .inl (.inl (.inl (.inr ⟨_, _, _, rfl, rfl, sub_sqT g h1, fun z => ?_, by omega, q3, by rw [r1.length]; exact q4, fun p hp => d.tup g hp (r1.rep _) ?_⟩)))
      · rw [z] at r1
        cases r1
        exact q1 rfl
      · rw [rep_len, r1.length]
        have m1 : b.toNat * _ ≤ 1000 * 1000 := Nat.mul_le_mul (show b.toNat ≤ 1000 by omega) q4
        exact Nat.le_trans m1 (by decide)
    | _ => cases e
  | lst h1 r1 =>
    cases ry with
    | int b =>
      obtain ⟨h, rfl⟩ := ite_some e
      obtain ⟨q1, q2, q3⟩ := h
      have hz : _ * b.toNat ≤ sizeLine := sz6 q3
      rw [← r1.length] at hz
      refine .inl (.inl (.inr ⟨_, _, _, rfl, rfl, g.sub _ _ h1, by omega, by omega, hz, fun p hp => d.lst g hp (r1.rep _) ?_⟩))
      rw [rep_len, Nat.mul_comm]
      exact hz
    | _ => cases e
  | _ => cases e⟩
def dNot : Option D → Option D
  | some (.bl b) => some (.bl (!b))
  | _ => none
def dIn : D → D → Option D
  | x, .lst ys => if plain 59 x && ys.all (plain 59) then some (.bl (ys.any fun y => eqb y x)) else none
  | x, .tup ys => if plain 59 x && ys.all (plain 59) then some (.bl (ys.any fun y => eqb y x)) else none
  | _, _ => none
def rInT (K : PySem.W.Frag) (b : Bool) : R2 := fun x y H Q => ∃ d ds, Dp K H x d ∧ Dp K H y (.tuple ds) ∧ SeqAt.shaped d = true ∧ SeqAt.shaped (.tuple ds) = true ∧ Q (.bl (xor b (ds.any fun z => PyData.eqv z d))) H
theorem op_notInT (hu : X.A.units + 65 < cLine) : OpR X (compareOp .NotIn) (rInT X.K true) := by
  rintro pins s σ H x y v u Q I rx ry ⟨d, ds, hd, he, sd, se, q⟩
  obtain ⟨as, r1⟩ := Dp.reads I d x v hd rx
  obtain ⟨bs, r2⟩ := Dp.reads I (.tuple ds) y u he ry
  refine SeqAt.notIn_tuple_reads r2 r1 (SeqAt.canLay_of_shaped se) (SeqAt.canLay_of_shaped sd) (room_in_shaped sd hu) ⟨.bl _, H, I, rfl, ?_⟩
  rw [Bool.true_xor] at q
  exact q
def dNotIn (x y : D) : Option D := dNot (dIn x y)
theorem any_py : ∀ (ys : List D) (x : D), plain 59 x = true → ys.all (plain 59) = true → ((toPys ys).any fun z => PyData.eqv z (toPy x)) = ys.any fun y => eqb y x
  | [], _, _, _ => rfl
  | y :: ys, x, hx, hy => by
    rw [List.all_cons, Bool.and_eq_true] at hy
    show (PyData.eqv (toPy y) (toPy x) || (toPys ys).any fun z => PyData.eqv z (toPy x)) = (eqb y x || ys.any fun y => eqb y x)
    rw [eqv_eqb 59 y x hy.1 hx, any_py ys x hx hy.2]
theorem plain_up {d : D} (h : plain 59 d = true) : SeqAt.shaped (toPy d) = true := by
  obtain ⟨a, b⟩ := plain_lay 59 d h
  unfold SeqAt.shaped
  rw [a, Bool.true_and]
  exact decide_eq_true (Nat.le_trans b (by decide))
theorem opD_notIn (hu : X.A.units + 65 < cLine) : OpD X (compareOp .NotIn) dNotIn := ⟨_, (op_notInD hu).or (op_notInT hu), fun x y z e T wd H v u Q g rx ry d => by
  cases ry with
  | tup hs rs =>
    have e1 : dNot (if (plain 59 x && List.all _ (plain 59)) = true then some (D.bl (List.any _ fun y => eqb y x)) else none) = some z := e
    split at e1
    · rename_i h
      rw [Bool.and_eq_true] at h
      cases e1
      refine .inr ⟨toPy x, toPys _, rep_dp g 59 h.1 rx, .tup (sub_sqT g hs) (reps_dp g 59 h.2 rs), plain_up h.1, plain_shaped (d := .tup _) h.2, ?_⟩
      rw [any_py _ x h.1 h.2, Bool.true_xor]
      exact d.now (.bl _)
    · cases e1
  | lst hs rs =>
    have e1 : dNot (if (plain 59 x && List.all _ (plain 59)) = true then some (D.bl (List.any _ fun y => eqb y x)) else none) = some z := e
    split at e1
    · rename_i h
      rw [Bool.and_eq_true] at h
      cases e1
      refine .inl ⟨toPy x, toPys _, rep_dp g 59 h.1 rx, .lst (sub_sqL g hs) (reps_dp g 59 h.2 rs), plain_up h.1, plain_shaped (d := .lst _) h.2, ?_⟩
      rw [any_py _ x h.1 h.2]
      exact d.now (.bl _)
    · cases e1
  | _ => cases e⟩
end
end Pd

namespace Pd
open PySem PySem.Spec PyProof.Rows L2 LamX

section
variable {X : Cx} {T : List (Addr × Str)} {E : XK} {k : Nat}
structure CallB (X : Cx) (f : Value) (g : D → Option D) : Prop where
  ex : ∃ r : List V → Hp → VK → Prop, CallR X f r ∧ ∀ (x z : D), g x = some z → ∀ (T : List (Addr × Str)) (wd : Wd) (H : Hp) (v : V) (Q : VK), Good T wd H → Top X.K wd H v x → Del X.K wd H z Q → r [v] H Q
structure CallN (X : Cx) (f : Value) (g : List D → Option D) : Prop where
  ex : ∃ r : List V → Hp → VK → Prop, CallR X f r ∧ ∀ (xs : List D) (z : D), g xs = some z → ∀ (T : List (Addr × Str)) (wd : Wd) (H : Hp) (vs : List V) (Q : VK), Good T wd H → Reps X.K wd vs xs → Del X.K wd H z Q → r vs H Q
def DelF (K : PySem.W.Frag) (wd : Wd) (H : Hp) (zs : List D) (Q : VK) : Prop := ∀ (p : Addr) (us : List V), H p = none → Reps K wd us zs → us.length ≤ sizeLine → Q (.ref p) (upd H p (.lst us))
structure CallF (X : Cx) (f : Value) (g : D → Option (List D)) : Prop where
  ex : ∃ r : List V → Hp → VK → Prop, CallR X f r ∧ ∀ (x : D) (zs : List D), g x = some zs → ∀ (T : List (Addr × Str)) (wd : Wd) (H : Hp) (v : V) (Q : VK), Good T wd H → Top X.K wd H v x → DelF X.K wd H zs Q → r [v] H Q
def w1 (g : D → Option D) (a : W D) : W D := a.bind fun x => .opt (g x)
def wN (g : List D → Option D) (a : W (List D)) : W D := a.bind fun x => .opt (g x)
def w1F (g : D → Option (List D)) (a : W D) : W (List D) := a.bind fun x => .opt (g x)
section
variable {x : Str} {p pos : Pos} {e : Expr} {es : List Expr} {id ty : String} {a : W D} {w : W (List D)}
theorem lift_1 {r : List V → Hp → VK → Prop} {g : D → Option D} {σ : L2.St} {H : Hp} {Q : VK}
    (hr : ∀ (x z : D), g x = some z → ∀ (T : List (Addr × Str)) (wd : Wd) (H : Hp) (v : V) (Q : VK), Good T wd H → Top X.K wd H v x → Del X.K wd H z Q → r [v] H Q)
    (h : lift X.K T (rE X.K) E (w1 g a) σ H Q) : tCB r (tCons (lift X.K T (rB X.K) E a) tNil) σ H Q := by
  obtain ⟨c, wd, env, P, Ex, rl, h, xo, k⟩ := h
  refine ⟨c, wd, env, _, Ex, rl, h, xo, fun x env1 h1 v wd1 H1 le1 r1 tp => ?_⟩
  obtain ⟨z, e1, h2⟩ := opt_inv h1
  exact hr x z e1 T wd1 H1 v Q r1.good tp fun w wd2 H2 g2 rp => k z env1 h2 w wd2 H2 (le1.trans (g2.le r1.good)) (r1.grow g2) rp
theorem lift_1F {r : List V → Hp → VK → Prop} {g : D → Option (List D)} {σ : L2.St} {H : Hp} {Q : VK}
    (hr : ∀ (x : D) (zs : List D), g x = some zs → ∀ (T : List (Addr × Str)) (wd : Wd) (H : Hp) (v : V) (Q : VK), Good T wd H → Top X.K wd H v x → DelF X.K wd H zs Q → r [v] H Q)
    (h : lift X.K T (rF X.K) E (w1F g a) σ H Q) : tCB r (tCons (lift X.K T (rB X.K) E a) tNil) σ H Q := by
  obtain ⟨c, wd, env, P, Ex, rl, h, xo, k⟩ := h
  refine ⟨c, wd, env, _, Ex, rl, h, xo, fun x env1 h1 v wd1 H1 le1 r1 tp => ?_⟩
  obtain ⟨z, e1, h2⟩ := opt_inv h1
  refine hr x z e1 T wd1 H1 v Q r1.good tp fun p us hp ru hz => ?_
  obtain ⟨r2, f⟩ := r1.fresh hp ru hz
  exact k z env1 h2 _ wd1 _ le1 r2 f
theorem lift_N {r : List V → Hp → VK → Prop} {g : List D → Option D} {σ : L2.St} {H : Hp} {Q : VK}
    (hr : ∀ (xs : List D) (z : D), g xs = some z → ∀ (T : List (Addr × Str)) (wd : Wd) (H : Hp) (vs : List V) (Q : VK), Good T wd H → Reps X.K wd vs xs → Del X.K wd H z Q → r vs H Q)
    (h : lift X.K T (rE X.K) E (wN g w) σ H Q) : tCB r (lift X.K T (rA X.K) E w) σ H Q := by
  obtain ⟨c, wd, env, P, Ex, rl, h, xo, k⟩ := h
  refine ⟨c, wd, env, _, Ex, rl, h, xo, fun x env1 h1 v wd1 H1 le1 r1 tp => ?_⟩
  obtain ⟨z, e1, h2⟩ := opt_inv h1
  exact hr x z e1 T wd1 H1 v Q r1.good tp fun w wd2 H2 g2 rp => k z env1 h2 w wd2 H2 (le1.trans (g2.le r1.good)) (r1.grow g2) rp
theorem je_b1 {g : D → Option D} (hc : CallB X (.builtin id) g) (hm : X.mg x = none) (hv : bootBuiltins x = some (.builtin id)) (ha : JB T X E e a) (hg : Gl X x := by rfl) (hn : x ≠ "__name__" := by decide) (hdb : (x == ("__debug__" : Str)) = false := by decide)
    (hs : starEach [e] X.env = (false, eval e X.env) :: starEach [] X.env := by rfl) (hpl : (backTo pos (starEach [] X.env)).any (·.1) = false := by rfl) : JE T X E (.Call (.Name x p) [e] [] pos) (w1 g a) := by
  obtain ⟨r, h1, h2⟩ := hc.ex
  exact peI (pe_callB h1 hg hm hv (pa_cons ha pa_nil hs) hn hdb hs hpl) fun σ H Q h => lift_1 h2 h
theorem je_t1 {g : D → Option D} (hc : CallB X (.type ty) g) (hm : X.mg x = none) (hv : bootBuiltins x = some (.type ty)) (ha : JB T X E e a) (hg : Gl X x := by rfl) (hn : x ≠ "__name__" := by decide) (hdb : (x == ("__debug__" : Str)) = false := by decide)
    (hs : starEach [e] X.env = (false, eval e X.env) :: starEach [] X.env := by rfl) (hpl : (backTo pos (starEach [] X.env)).any (·.1) = false := by rfl) : JE T X E (.Call (.Name x p) [e] [] pos) (w1 g a) := by
  obtain ⟨r, h1, h2⟩ := hc.ex
  exact peI (pe_callTy h1 hg hm hv (pa_cons ha pa_nil hs) hn hdb hs hpl) fun σ H Q h => lift_1 h2 h
theorem jf_t1 {g : D → Option (List D)} (hc : CallF X (.type ty) g) (hm : X.mg x = none) (hv : bootBuiltins x = some (.type ty)) (ha : JB T X E e a) (hg : Gl X x := by rfl) (hn : x ≠ "__name__" := by decide) (hdb : (x == ("__debug__" : Str)) = false := by decide)
    (hs : starEach [e] X.env = (false, eval e X.env) :: starEach [] X.env := by rfl) (hpl : (backTo pos (starEach [] X.env)).any (·.1) = false := by rfl) : JF T X E (.Call (.Name x p) [e] [] pos) (w1F g a) := by
  obtain ⟨r, h1, h2⟩ := hc.ex
  exact peI (pe_callTy h1 hg hm hv (pa_cons ha pa_nil hs) hn hdb hs hpl) fun σ H Q h => lift_1F h2 h
theorem je_bN {g : List D → Option D} (hc : CallN X (.builtin id) g) (hm : X.mg x = none) (hv : bootBuiltins x = some (.builtin id)) (ha : JA T X E (e :: es) w) (hg : Gl X x := by rfl) (hn : x ≠ "__name__" := by decide) (hdb : (x == ("__debug__" : Str)) = false := by decide)
    (hs : starEach (e :: es) X.env = (false, eval e X.env) :: starEach es X.env := by rfl) (hpl : (backTo pos (starEach es X.env)).any (·.1) = false := by rfl) : JE T X E (.Call (.Name x p) (e :: es) [] pos) (wN g w) := by
  obtain ⟨r, h1, h2⟩ := hc.ex
  exact peI (pe_callB h1 hg hm hv ha hn hdb hs hpl) fun σ H Q h => lift_N h2 h
end
def dLen : D → Option D
  | .tup xs => some (.int xs.length)
  | .lst xs => some (.int xs.length)
  | .scr ns => some (.int ns.length)
  | .str z => if z.length ≤ 1000000 then some (.int z.length) else none
  | _ => none
theorem top_lst {K : PySem.W.Frag} {wd : Wd} {H : Hp} {v : V} {xs : List D} (g : Good T wd H) (t : Top K wd H v (.lst xs)) : ∃ (p : Addr) (vs : List V), v = .ref p ∧ H p = some (.lst vs) ∧ Reps K wd vs xs := by
  rcases t with h | ⟨p, vs, ys, rfl, e, h1, h2⟩
  · cases h with
    | lst h1 h2 => exact ⟨_, _, rfl, g.sub _ _ h1, h2⟩
  · cases e
    exact ⟨p, vs, rfl, h1, h2⟩
theorem top_tup {K : PySem.W.Frag} {wd : Wd} {H : Hp} {v : V} {xs : List D} (g : Good T wd H) (t : Top K wd H v (.tup xs)) : ∃ (p : Addr) (vs : List V), v = .ref p ∧ SqT K H p vs ∧ wd.M p = some (.tup vs) ∧ Reps K wd vs xs := by
  rcases t with h | ⟨p, vs, ys, rfl, e, h1, h2⟩
  · cases h with
    | tup h1 h2 => exact ⟨_, _, rfl, sub_sqT g h1, h1, h2⟩
  · cases e
theorem top_rep {K : PySem.W.Frag} {wd : Wd} {H : Hp} {v : V} {d : D} (t : Top K wd H v d) (h : ∀ xs, d ≠ .lst xs) : Rep K wd v d := by
  rcases t with t | ⟨p, vs, ys, rfl, e, h1, h2⟩
  · exact t
  · exact absurd e (h ys)
theorem cb_len : CallB X (.builtin "len") dLen := ⟨_, call_len, fun x z e T wd H v Q g t d => by
  cases x with
  | tup xs =>
    cases e
    obtain ⟨p, vs, rfl, h1, _, h2⟩ := top_tup g t
    exact ⟨_, _, rfl, .inr ⟨_, h1, h2.length.symm⟩, d.now (.int _)⟩
  | lst xs =>
    cases e
    obtain ⟨p, vs, rfl, h1, h2⟩ := top_lst g t
    exact ⟨_, _, rfl, .inl ⟨_, .inl (.inl h1), h2.length.symm⟩, d.now (.int _)⟩
  | scr ns =>
    cases e
    cases top_rep t (fun _ z => nomatch z) with
    | scr h => exact ⟨_, _, rfl, .inl ⟨_, sub_sqS g h, (List.length_map ..).symm⟩, d.now (.int _)⟩
  | str y =>
    obtain ⟨h, rfl⟩ := ite_some e
    cases top_rep t (fun _ z => nomatch z)
    exact ⟨_, _, rfl, ⟨sz6 h, rfl⟩, d.now (.int _)⟩
  | _ => cases e⟩
def asBools : List D → Option (List Bool)
  | [] => some []
  | .bl b :: r => (asBools r).map (b :: ·)
  | _ => none
def asInts : List D → Option (List Int)
  | [] => some []
  | .int b :: r => (asInts r).map (b :: ·)
  | _ => none
theorem asBools_eq : ∀ {xs : List D} {bs : List Bool}, asBools xs = some bs → xs = bs.map D.bl
  | [], _, h => by cases h; rfl
  | .bl b :: r, bs, h => by
    have h' : (asBools r).map (b :: ·) = some bs := h
    obtain ⟨cs, e, rfl⟩ := Option.map_eq_some_iff.mp h'
    rw [asBools_eq e]
    rfl
  | .non :: _, _, h => by cases h
  | .int _ :: _, _, h => by cases h
  | .str _ :: _, _, h => by cases h
  | .tup _ :: _, _, h => by cases h
  | .lst _ :: _, _, h => by cases h
  | .scr _ :: _, _, h => by cases h
  | .dic _ :: _, _, h => by cases h
  | .dit _ :: _, _, h => by cases h
  | .ins _ _ :: _, _, h => by cases h
  | .box _ :: _, _, h => by cases h
  | .raw _ :: _, _, h => by cases h
  | .cls _ :: _, _, h => by cases h
theorem asInts_eq : ∀ {xs : List D} {bs : List Int}, asInts xs = some bs → xs = bs.map D.int
  | [], _, h => by cases h; rfl
  | .int b :: r, bs, h => by
    have h' : (asInts r).map (b :: ·) = some bs := h
    obtain ⟨cs, e, rfl⟩ := Option.map_eq_some_iff.mp h'
    rw [asInts_eq e]
    rfl
  | .non :: _, _, h => by cases h
  | .bl _ :: _, _, h => by cases h
  | .str _ :: _, _, h => by cases h
  | .tup _ :: _, _, h => by cases h
  | .lst _ :: _, _, h => by cases h
  | .scr _ :: _, _, h => by cases h
  | .dic _ :: _, _, h => by cases h
  | .dit _ :: _, _, h => by cases h
  | .ins _ _ :: _, _, h => by cases h
  | .box _ :: _, _, h => by cases h
  | .raw _ :: _, _, h => by cases h
  | .cls _ :: _, _, h => by cases h
theorem asInts_map : ∀ ns : List Int, asInts (ns.map D.int) = some ns
  | [] => rfl
  | n :: ns => by
    show (asInts (ns.map D.int)).map (n :: ·) = some (n :: ns)
    rw [asInts_map ns]
    rfl
theorem asBools_map : ∀ ns : List Bool, asBools (ns.map D.bl) = some ns
  | [] => rfl
  | n :: ns => by
    show (asBools (ns.map D.bl)).map (n :: ·) = some (n :: ns)
    rw [asBools_map ns]
    rfl
def dAll : D → Option D
  | .lst xs => (asBools xs).map fun bs => .bl (bs.all id)
  | _ => none
theorem cb_all (hc : X.calm = true) : CallB X (.builtin "all") dAll := ⟨_, cr_all hc, fun x z e T wd H v Q g t d => by
  cases x with
  | lst xs =>
    obtain ⟨bs, e1, rfl⟩ := Option.map_eq_some_iff.mp e
    obtain ⟨p, vs, rfl, h1, h2⟩ := top_lst g t
    rw [asBools_eq e1] at h2
    rw [h2.bools] at h1
    exact ⟨_, bs, rfl, .inl (.inl h1), d.now (.bl _)⟩
  | _ => cases e⟩
theorem sum_tup {prog : Program} {w : World} {A : Around} {E : Value → Shared → Prop} {s : Shared} {l : Addr} {its : List Value} {ns : List Int} {Q : Value → Shared → Prop} (hh : A.handled = none) (hl : s.heap.IsTuple l its.toArray) (hi : IntsAre its ns)
    (h : ∀ h' tk t', (∀ b o, s.heap.get? b = some o → h'.get? b = some o) → Q (.int ns.sum t') { s with heap := h', toks := tk }) : wpAny (model prog w) A (call (.builtin "sum") [.ref l]) Q E s := by
  obtain ⟨xs, e⟩ := hi.allInts.items
  have hn : numsOf (intItems xs).toList = ns := by rw [← e]; exact hi.numsOf
  rw [nums_intItems] at hn
  rw [e] at hl
  have lt : l < s.heap.objs.size := by
    obtain ⟨o, ho, _⟩ := id hl
    exact Heap.lt_size ho
  refine call_sum_walkG (wpAny_pyIter_tuple hl ?_)
  refine ⟨_, _, _, _, _, _, numAt xs, rfl, Walks.tuple (A := A.in1) hh s.heap.objs.size l (Nat.ne_of_lt lt) (intItems xs), ⟨⟨_, Heap.get?_push_size _ rfl, rfl, rfl⟩, hl.push _⟩, fun b hb => ?_, (fun _ _ => intItems_at), fun h' tk t' hk => ?_⟩
  · show b < (s.heap.push _).objs.size
    rw [Heap.size_push]
    rcases List.mem_cons.mp hb with rfl | hb
    · exact Nat.lt_succ_self _
    · rw [List.mem_singleton.mp hb]
      exact Nat.lt_succ_of_lt lt
  · have z := h h' tk t' fun b o q => hk b o (fun hb => by
      rw [List.mem_singleton.mp hb] at q
      exact absurd (Heap.lt_size q) (Nat.lt_irrefl _)) (Heap.get?_push_of_some _ q)
    have e2 : preSum (numAt xs) (intItems xs).size = ns.sum := by
      rw [show (intItems xs).size = xs.size by simp [intItems], preSum_eq, List.take_of_length_le (by simp), hn]
    rw [e2]
    exact z
def rSumT (K : PySem.W.Frag) : List V → Hp → VK → Prop := fun vs H Q => ∃ (a : Addr) (ns : List Int), vs = [V.ref a] ∧ SqT K H a (ns.map V.int) ∧ Q (.int ns.sum) H
theorem cr_sumT (hc : X.calm = true) : CallR X (.builtin "sum") (rSumT X.K) := by
  rintro pins s σ H vs us Q I r ⟨a, ns, rfl, hs, q⟩
  obtain ⟨its, rv, hl, _⟩ := I.tuple hs
  rw [Vals.ref1 r]
  exact sum_tup (I.ok.hd hc) hl rv.ints fun h' tk t' hk => ⟨.int _, H, I.kept hk, ⟨_, rfl⟩, q⟩
def dSum : D → Option D
  | .lst xs => (asInts xs).map fun bs => .int bs.sum
  | .tup xs => (asInts xs).map fun bs => .int bs.sum
  | _ => none
theorem cb_sum (hc : X.calm = true) : CallB X (.builtin "sum") dSum := ⟨_, (cr_sum hc).or (cr_sumT hc), fun x z e T wd H v Q g t d => by
  cases x with
  | lst xs =>
    obtain ⟨bs, e1, rfl⟩ := Option.map_eq_some_iff.mp e
    obtain ⟨p, vs, rfl, h1, h2⟩ := top_lst g t
    rw [asInts_eq e1] at h2
    rw [h2.ints] at h1
    exact .inl ⟨_, bs, rfl, .inl (.inl h1), d.now (.int _)⟩
  | tup xs =>
    obtain ⟨bs, e1, rfl⟩ := Option.map_eq_some_iff.mp e
    obtain ⟨p, vs, rfl, h1, _, h2⟩ := top_tup g t
    rw [asInts_eq e1] at h2
    rw [h2.ints] at h1
    exact .inr ⟨_, bs, rfl, h1, d.now (.int _)⟩
  | _ => cases e⟩
def dAbs : List D → Option D
  | [.int i] => some (.int (if i < 0 then -i else i))
  | _ => none
theorem cn_abs : CallN X (.builtin "abs") dAbs := ⟨_, call_abs, fun xs z e T wd H vs Q g r d => by
  unfold dAbs at e
  split at e
  · cases e
    cases r with
    | cons a b =>
      cases a
      cases b
      exact ⟨_, rfl, d.now (.int _)⟩
  · cases e⟩
def dMax2 : List D → Option D
  | [.int i, .int j] => some (.int (if j > i then j else i))
  | _ => none
def dMin2 : List D → Option D
  | [.int i, .int j] => some (.int (if j < i then j else i))
  | _ => none
theorem cn_max2 (hc : X.calm = true) : CallN X (.builtin "max") dMax2 := ⟨_, call_max2 hc, fun xs z e T wd H vs Q g r d => by
  unfold dMax2 at e
  split at e
  · cases e
    cases r with
    | cons a b =>
      cases a
      cases b with
      | cons a b =>
        cases a
        cases b
        exact ⟨_, _, rfl, d.now (.int _)⟩
  · cases e⟩
theorem cn_min2 (hc : X.calm = true) : CallN X (.builtin "min") dMin2 := ⟨_, call_min2 hc, fun xs z e T wd H vs Q g r d => by
  unfold dMin2 at e
  split at e
  · cases e
    cases r with
    | cons a b =>
      cases a
      cases b with
      | cons a b =>
        cases a
        cases b
        exact ⟨_, _, rfl, d.now (.int _)⟩
  · cases e⟩
def dInt : D → Option D
  | .int i => some (.int i)
  | .bl b => some (.int (if b then 1 else 0))
  | _ => none
theorem cb_int : CallB X (.type "int") dInt := ⟨_, call_int1, fun x z e T wd H v Q g t d => by
  cases x with
  | int i =>
    cases e
    cases top_rep t (fun _ z => nomatch z)
    exact .inl ⟨_, rfl, d.now (.int _)⟩
  | bl b =>
    cases e
    cases top_rep t (fun _ z => nomatch z)
    exact .inr ⟨_, rfl, d.now (.int _)⟩
  | _ => cases e⟩
def dTuple : D → Option D
  | .lst xs => some (.tup xs)
  | .tup xs => some (.tup xs)
  | _ => none
theorem cb_tuple : CallB X (.type "tuple") dTuple := ⟨_, call_tuple_of, fun x z e T wd H v Q g t d => by
  cases x with
  | lst xs =>
    cases e
    obtain ⟨p, vs, rfl, h1, h2⟩ := top_lst g t
    exact ⟨_, _, rfl, .inl ⟨.inl (.inl h1), fun l hl => d.tup g hl h2 (g.siz _ _ h1)⟩⟩
  | tup xs =>
    cases e
    obtain ⟨p, vs, rfl, h1, h3, h2⟩ := top_tup g t
    exact ⟨_, _, rfl, .inr ⟨h1, d.now (.tup h3 h2)⟩⟩
  | _ => cases e⟩
def dItems : D → Option (List D)
  | .lst xs => some xs
  | .tup xs => some xs
  | _ => none
theorem cf_list : CallF X (.type "list") dItems := ⟨_, call_list_of, fun x zs e T wd H v Q g t d => by
  cases x with
  | lst xs =>
    cases e
    obtain ⟨p, vs, rfl, h1, h2⟩ := top_lst g t
    exact ⟨_, _, rfl, .inl (.inl (.inl h1)), fun l hl => d l vs hl h2 (g.siz _ _ h1)⟩
  | tup xs =>
    cases e
    obtain ⟨p, vs, rfl, h1, h3, h2⟩ := top_tup g t
    exact ⟨_, _, rfl, .inr h1, fun l hl => d l vs hl h2 (siz_sqT g h3)⟩
  | _ => cases e⟩
def dTy : D → Option String
  | .non => some "NoneType"
  | .bl _ => some "bool"
  | .int _ => some "int"
  | .str _ => some "str"
  | .tup _ => some "tuple"
  | .lst _ => some "list"
  | .dic _ => some "dict"
  | _ => none
def isa (s t : String) : Bool := s == t || (s == "bool" && t == "int")
def dIsi (t : String) : D → Option D := fun x => (dTy x).map fun s => .bl (isa s t)
theorem rep_ty {K : PySem.W.Frag} {wd : Wd} {H : Hp} {v : V} {d : D} {s : String} (g : Good T wd H) (r : Rep K wd v d) (h : dTy d = some s) : TyX K H v (.type s) := by
  cases r <;> cases h
  · exact .base .non
  · exact .base (.bl _)
  · exact .base (.int _)
  · exact .base (.str _)
  · rename_i hs _
    exact .base (.tup (g.sub _ _ hs))
  · exact .base (.lst (g.sub _ _ ‹_›))
  · exact .base (.dK (g.sub _ _ ‹_›))
structure IsT (t : String) : Prop where
  h : ∀ s ∈ ["NoneType", "bool", "int", "str", "tuple", "list", "dict"], kitB s t = some (isa s t)
theorem isT_int : IsT "int" := ⟨by decide +kernel⟩
theorem isT_bool : IsT "bool" := ⟨by decide +kernel⟩
theorem isT_tuple : IsT "tuple" := ⟨by decide +kernel⟩
theorem isT_str : IsT "str" := ⟨by decide +kernel⟩
theorem je_isi {t : String} {y : Str} {e : Expr} {a : W D} {p p2 pos : Pos} (ht : IsT t) (hm : X.mg "isinstance" = none) (hm2 : X.mg y = none) (hv2 : bootBuiltins y = some (.type t)) (ha : JE T X E e a)
    (hg : Gl X "isinstance" := by rfl) (hg2 : Gl X y := by rfl) (hn : y ≠ "__name__" := by decide) (hdb : (y == ("__debug__" : Str)) = false := by decide)
    (hs : starEach [e, .Name y p2] X.env = (false, eval e X.env) :: starEach [.Name y p2] X.env := by rfl) (hs2 : starEach [.Name y p2] X.env = (false, eval (.Name y p2) X.env) :: starEach [] X.env := by rfl) (hpl : (backTo pos (starEach [.Name y p2] X.env)).any (·.1) = false := by rfl) :
    JE T X E (.Call (.Name "isinstance" p) [e, .Name y p2] [] pos) (w1 (dIsi t) a) := by
  refine peI (pe_callB call_isi hg hm (by decide +kernel) (pa_cons ha (pa_cons (pe_bltn (v := .ty t) hg2 hm2 hv2 rfl hn hdb) pa_nil hs2) hs) (by decide) (by decide) hs hpl) fun σ H Q ⟨c, wd, env, P, Ex, rl, h, xo, k⟩ => ?_
  refine ⟨c, wd, env, _, Ex, rl, h, xo, fun x env1 h1 v wd1 H1 le1 r1 rp => ?_⟩
  obtain ⟨z, e1, h2⟩ := opt_inv h1
  obtain ⟨s, e2, rfl⟩ := Option.map_eq_some_iff.mp e1
  refine ⟨v, .ty t, .type s, .type t, isa s t, rfl, .ty t, rep_ty r1.good rp e2, kit_ty (ht.h s ?_), k _ env1 h2 _ wd1 H1 le1 r1 (.bl _)⟩
  cases x <;> cases e2 <;> decide
end
end Pd

namespace Pd
open PySem PySem.Spec PyProof.Rows L2 LamX

mutual
theorem reads_lt {h : Heap} : ∀ {v : Value} {d : PyData} {as : List Addr}, Reads h v d as → ∀ b ∈ as, b < h.objs.size
  | _, _, _, .none => fun b hb => absurd hb (by simp)
  | _, _, _, .bool _ => fun b hb => absurd hb (by simp)
  | _, _, _, .int _ _ => fun b hb => absurd hb (by simp)
  | _, _, _, .str _ _ => fun b hb => absurd hb (by simp)
  | _, _, _, .list h1 _ _ h4 => fun b hb => by
    rcases List.mem_cons.mp hb with rfl | hb
    · exact Heap.lt_size h1
    · exact readsAll_lt h4 b hb
  | _, _, _, .tuple _ _ _ h4 => fun b hb => readsAll_lt h4 b hb
  | _, _, _, .dict h1 _ _ h4 h5 => fun b hb => by
    rcases List.mem_append.mp hb with hb | hb
    · rcases List.mem_cons.mp hb with rfl | hb
      · exact Heap.lt_size h1
      · exact readsAll_lt h4 b hb
    · exact readsAll_lt h5 b hb
theorem readsAll_lt {h : Heap} : ∀ {vs : List Value} {ds : List PyData} {as : List Addr}, ReadsAll h vs ds as → ∀ b ∈ as, b < h.objs.size
  | _, _, _, .nil => fun b hb => absurd hb (by simp)
  | _, _, _, .cons h1 h2 => fun b hb => (List.mem_append.mp hb).elim (reads_lt h1 b) (readsAll_lt h2 b)
end
section
variable {prog : Program} {w : World} {A : Around} {E : Value → Shared → Prop} {s : Shared}
theorem sorted_after {T : String} (hT : T = "list" ∨ T = "tuple") {a : Addr} {o : Obj} {vs : List Value} {n : Nat} {kw : List (Str × Value)} {Q : Value → Shared → Prop} (ho : s.heap.get? a = some o) (hc : o.cls = .type T) (hd : o.data = .seq vs.toArray n) (hz : vs.length ≤ sizeLine)
    (ha : argsOk "sorted" ⟨[.ref a], kw⟩)
    (h : ∀ h1 : Heap, (∀ b u, s.heap.get? b = some u → h1.get? b = some u) →
      wpAny (model prog w) A.in1 (call (.builtin "list.sort") [.ref h1.objs.size] kw) (fun _ s' => Q (.ref h1.objs.size) s') E { s with heap := h1.push (seqObj "list" vs.toArray 0) }) :
    wpAny (model prog w) A (call (.builtin "sorted") [.ref a] kw) Q E s := by
  refine call_function_entry_kw kind_sorted plain_sorted entry_sorted ha ?_
  unfold Builtin.«sorted»
  refine wpAny_bind (m := checkCount "sorted" 1 1 _) (wpAny_pure ?_)
  refine wpAny_bind (wpAny_collect_seq a hT ho hc hd (fun h1 k1 => ?_) (by simpa using hz))
  refine wpAny_bind (wpAny_newList ?_ (by simpa using hz))
  have g := h h1 k1
  refine wpAny_bind (wpAny_holding (wpAny_mono ?_ (fun _ s' x => wpAny_pure ⟨_, rfl, x⟩) fun _ _ e => e))
  simpa using g
end
section
variable {X : Cx} {pins : List (Addr × Obj)} {σ : L2.St} {H : Hp} {s : Shared}
theorem each_of {K : PySem.W.Frag} {wd : Wd} : ∀ {vs : List V} {its : List Value} {xs : List D}, Reps K wd vs xs → Vals vs its → PySem.W.EachIs (fun u d => ∃ v, RelV v u ∧ Rep K wd v d) its xs
  | _, _, _, .nil, .nil => .nil
  | _, _, _, .cons a b, .cons r t => .cons ⟨_, r, a⟩ (each_of b t)
theorem of_each {K : PySem.W.Frag} {wd : Wd} : ∀ {its : List Value} {xs : List D}, PySem.W.EachIs (fun u d => ∃ v, RelV v u ∧ Rep K wd v d) its xs → ∃ vs, Vals vs its ∧ Reps K wd vs xs
  | _, _, .nil => ⟨[], .nil, .nil⟩
  | _, _, .cons ⟨v, r, a⟩ t => by
    obtain ⟨vs, h1, h2⟩ := of_each t
    exact ⟨v :: vs, .cons r h1, .cons a h2⟩
theorem each_reads {T : List (Addr × Str)} {wd : Wd} {p : Addr} (g : Good T wd H) (I : Inv X pins σ H s) (hp : s.heap.objs.size ≤ p) {h2 : Heap} (kk : ∀ b u, s.heap.get? b = some u → h2.get? b = some u) (n : Nat) : ∀ {vs : List V} {its : List Value} {xs : List D}, xs.all (plain n) = true → Reps X.K wd vs xs → Vals vs its →
    PySem.W.EachIs (fun v b => ∃ as, Reads h2 v (toPy b) as ∧ p ∉ as) its xs
  | _, _, _, _, .nil, .nil => .nil
  | _, _, _, h, .cons a b, .cons r t => by
    rw [List.all_cons, Bool.and_eq_true] at h
    obtain ⟨as, ra⟩ := Dp.reads I _ _ _ (rep_dp g n h.1 a) r
    refine .cons ⟨as, PyProof.Rows.Reads.keeps kk ra, fun hm => ?_⟩ (each_reads g I hp kk n h.2 b t)
    exact absurd (Nat.lt_of_lt_of_le (reads_lt ra p hm) hp) (Nat.lt_irrefl _)
structure Srt (xs : List D) : Prop where
  pl : xs.all (plain 50) = true
  al : PySem.W.AllAlike (xs.map toPy)
  so : PySem.W.Sortable (xs.map toPy)
abbrev leD (b : Bool) : D → D → Bool := PySem.W.dataLe b toPy
theorem sort_run {T : List (Addr × Str)} {wd : Wd} {b : Bool} {xs : List D} {vs : List V} {its : List Value} {h1 : Heap} {Q : VK} {kw : List (Str × Value)} (hk : (b = false ∧ kw = []) ∨ kw = [(Str.ofString "reverse", .bool b)]) (g : Good T wd H) (I : Inv X pins σ H { s with heap := h1 }) (rs : Reps X.K wd vs xs) (rv : Vals vs its) (hz : vs.length ≤ sizeLine) (hu : X.A.units + 200 < cLine) (S : Srt xs)
    (q : DelF X.K wd H (xs.mergeSort (leD b)) Q) : wpAny (model X.prog X.w) X.A.in1 (call (.builtin "list.sort") [.ref h1.objs.size] kw) (fun _ s' => EP X pins σ Q (.ref h1.objs.size) s') X.xe { s with heap := h1.push (seqObj "list" its.toArray 0) } := by
  have ho : (h1.push (seqObj "list" its.toArray 0)).get? h1.objs.size = some (seqObj "list" its.toArray 0) := Heap.get?_push_size _ rfl
  have kk : ∀ c u, h1.get? c = some u → (h1.push (seqObj "list" its.toArray 0)).get? c = some u := fun c u z => Heap.get?_push_of_some _ z
  have er := each_reads (s := { s with heap := h1 }) (p := h1.objs.size) g I (Nat.le_refl _) kk 50 S.pl rs rv
  have e := each_of rs rv
  have hL : xs.length ≤ sizeLine := by rw [← rs.length]; exact hz
  have dep : ∀ d ∈ xs, X.A.in1.units + 1 + (toPy d).depth < cLine := fun d hd => by
    have := (plain_lay 50 d (List.all_eq_true.mp S.pl d hd)).2
    show X.A.units + 1 + 1 + (toPy d).depth < cLine
    omega
  have fin : ∀ out : List Value, out.length = xs.length → PySem.W.EachIs (fun u d => ∃ v, RelV v u ∧ Rep X.K wd v d) out (xs.mergeSort (leD b)) →
      EP X pins σ Q (.ref h1.objs.size) { s with heap := sortedHeap (h1.push (seqObj "list" its.toArray 0)) h1.objs.size its (List.toArray out) } := fun out hl eo => by
    obtain ⟨us, u1, u2⟩ := of_each eo
    obtain ⟨ep, he⟩ := sortedHeap_at (out := out.toArray) ho
    have hzu : us.length ≤ sizeLine := by
      rw [u1.length, hl]
      exact hL
    refine ⟨.ref h1.objs.size, upd H h1.objs.size (.lst us), I.laid (t' := s.toks) (fun c u z => ?_) (Nat.le_refl _) ⟨hzu, out, ep, u1, he⟩, rfl, q _ us (I.hok.fresh (Nat.le_refl _)) u2 hzu⟩
    have zl : c < h1.objs.size := Heap.lt_size z
    rw [sortedHeap_old (Nat.ne_of_lt zl) (by rw [Heap.size_push]; exact Nat.lt_succ_of_lt zl)]
    exact kk c u z
  rcases hk with ⟨rfl, rfl⟩ | rfl
  · exact PySem.W.list_sort_data (s := { s with heap := h1.push (seqObj "list" its.toArray 0) }) (enc := toPy) ho e er S.al S.so hL dep fin
  · exact PySem.W.list_sort_rev_data (s := { s with heap := h1.push (seqObj "list" its.toArray 0) }) (enc := toPy) ho e er S.al S.so hL dep fin
def rSrt (K : PySem.W.Frag) (b : Bool) (v : V) (H : Hp) (Q : VK) : Prop := ∃ (T : List (Addr × Str)) (wd : Wd) (x : D) (xs : List D), Good T wd H ∧ Top K wd H v x ∧ dItems x = some xs ∧ Srt xs ∧ DelF K wd H (xs.mergeSort (leD b)) Q
theorem sorted_ok {b : Bool} {v : V} {u : Value} {Q : VK} {kw : List (Str × Value)} (hk : (b = false ∧ kw = []) ∨ kw = [(Str.ofString "reverse", .bool b)]) (hu : X.A.units + 200 < cLine) (I : Inv X pins σ H s) (r : RelV v u) (h : rSrt X.K b v H Q) :
    wpAny (model X.prog X.w) X.A (call (.builtin "sorted") [u] kw) (EP X pins σ Q) X.xe s := by
  obtain ⟨T, wd, x, xs, g, t, ei, S, q⟩ := h
  have args : ∀ a : Value, argsOk "sorted" ⟨[a], kw⟩ := fun a => by
    rcases hk with ⟨_, rfl⟩ | rfl
    · exact args_sorted1 a
    · exact args_sorted_rev a _
  cases x with
  | lst ys =>
    cases ei
    obtain ⟨p, vs, rfl, h1, h2⟩ := top_lst g t
    cases r
    obtain ⟨hz, its, n, rv, ho⟩ := I.hok p _ h1
    exact sorted_after (.inl rfl) ho rfl rfl (by rw [← rv.length]; exact hz) (args _) fun hh kk => sort_run hk g (I.kept (t' := s.toks) kk) h2 rv hz hu S q
  | tup ys =>
    cases ei
    obtain ⟨p, vs, rfl, h1, h3, h2⟩ := top_tup g t
    cases r
    obtain ⟨its, rv, ⟨o, ho, hc, n, hd⟩, hz⟩ := I.tuple h1
    have hz2 : vs.length ≤ sizeLine := siz_sqT g h3
    exact sorted_after (.inr rfl) ho hc hd (by rw [← rv.length]; exact hz2) (args _) fun hh kk => sort_run hk g (I.kept (t' := s.toks) kk) h2 rv hz2 hu S q
  | _ => cases ei
end
section
variable {X : Cx} {T : List (Addr × Str)} {E : XK} {k : Nat}
def wSort (b : Bool) (a : W D) : W (List D) := a.bind fun x env Q _ => ∃ xs, dItems x = some xs ∧ Srt xs ∧ Q (xs.mergeSort (leD b)) env
theorem cr_srt (hu : X.A.units + 200 < cLine) : CallR X (.builtin "sorted") (fun vs H Q => ∃ v, vs = [v] ∧ rSrt X.K false v H Q) := by
  rintro pins s σ H vs us Q I r ⟨v, rfl, h⟩
  obtain ⟨u, rfl, ru⟩ := vals1 r
  exact sorted_ok (.inl ⟨rfl, rfl⟩) hu I ru h
theorem jf_sorted {e : Expr} {a : W D} {p pos : Pos} (B : Bd X E k) (hm : X.mg "sorted" = none) (ha : JB T X E e a) (hg : Gl X "sorted" := by rfl)
    (hs : starEach [e] X.env = (false, eval e X.env) :: starEach [] X.env := by rfl) (hpl : (backTo pos (starEach [] X.env)).any (·.1) = false := by rfl) : JF T X E (.Call (.Name "sorted" p) [e] [] pos) (wSort false a) := by
  have hu : X.A.units + 200 < cLine := by have := B.room.un; omega
  refine peI (pe_callB (cr_srt hu) hg hm (by decide +kernel) (pa_cons ha pa_nil hs) (by decide) (by decide) hs hpl) fun σ H Q ⟨c, wd, env, P, Ex, rl, h, xo, kk⟩ => ?_
  refine ⟨c, wd, env, _, Ex, rl, h, xo, fun x env1 ⟨xs, e1, S, h1⟩ v wd1 H1 le1 r1 tp => ⟨v, rfl, T, wd1, x, xs, r1.good, tp, e1, S, fun p us hp ru hz => ?_⟩⟩
  obtain ⟨r2, f⟩ := r1.fresh hp ru hz
  exact kk _ env1 h1 _ wd1 _ le1 r2 f
end
end Pd

namespace Pd
open PySem PySem.Spec PyProof.Rows L2 LamX

section
variable {X : Cx} {T : List (Addr × Str)} {E : XK} {k : Nat}
def ownIs (env : PEnv) (i : Nat) (P : List D → Prop) : Prop := match gt env i with
  | some (.own xs) => P xs
  | _ => False
theorem ownIs_inv {env : PEnv} {i : Nat} {P : List D → Prop} (h : ownIs env i P) : ∃ xs, gt env i = some (.own xs) ∧ P xs := by
  unfold ownIs at h
  split at h
  · exact ⟨_, by assumption, h⟩
  · exact h.elim
def wAppend (i : Nat) (e : W D) : W D := fun env Q ex => ownIs env i fun _ => e env (fun y env1 => ownIs env1 i fun xs => xs.length < 1000000 ∧ Q .non (env1.set i (some (.own (xs ++ [y]))))) ex
def wExtend (i : Nat) (e : W D) : W D := fun env Q ex => ownIs env i fun _ => e env (fun y env1 => ownIs env1 i fun xs => match y with
  | .lst ys => xs.length + ys.length ≤ 1000000 ∧ Q .non (env1.set i (some (.own (xs ++ ys))))
  | _ => False) ex
section
variable {x : Str} {e : Expr} {p apos pos : Pos}
theorem je_append (i : Nat) {w : W D} (he : JE T X E e w) (hN : X.N[i]? = some x := by rfl) (hv : Vis X.env.scope x := by first | exact Or.inl rfl | exact Or.inr (Or.inl rfl) | exact Or.inr (Or.inr rfl)) (hd : (x == ("__debug__" : Str)) = false := by decide)
    (hcd : (x == ("__classdict__" : Str)) = false := by decide) (hbase : attributeBase (.Name x p) "append" X.env (eval (.Name x p) X.env) = eval (.Name x p) X.env := by rfl)
    (hfew : ((backTo pos (starEach [e] X.env)).all (fun x => !x.1) && (backToKw pos (keywordEach [] X.env)).all (fun x => x.1.isSome) && decide ([e].length + ([] : List Keyword).length + (if ([] : List Keyword).isEmpty then 0 else 1) < 30)) = true := by rfl)
    (hline : (apos.endLine == pos.line) = true := by rfl) (hs : starEach [e] X.env = (false, eval e X.env) :: starEach [] X.env := by rfl) (hpl : (backTo pos (starEach [] X.env)).any (·.1) = false := by rfl) : JE T X E (.Call (.Attribute (.Name x p) "append" apos) [e] [] pos) (wAppend i w) :=
  peI (pe_bm F.plainAttrs_list F.slot_list_append F.type_list_append mt_append (pe_var hN hv hd hcd) (pa_cons he pa_nil hs) hbase hfew hline hs hpl) fun σ H Q ⟨c, wd, env, P, Ex, rl, h, xo, kk⟩ => by
    obtain ⟨xs0, e0, h⟩ := ownIs_inv h
    obtain ⟨p0, vs0, z0, zh, _⟩ := rl.own i xs0 (gt_eq _ _ e0)
    refine ⟨.ref p0, z0, .inl ⟨rfl, vs0, .inl (.inl zh)⟩, c, wd, env, _, Ex, rl, h, xo, fun y env1 h1 u wd1 H1 le1 r1 rp1 => ?_⟩
    obtain ⟨xs, e1, hl, h1⟩ := ownIs_inv h1
    obtain ⟨p1, vs, z1, z2, z3, z4, z5, z6⟩ := r1.own i xs (gt_eq _ _ e1)
    rw [z0] at z1
    cases z1
    have hz : (vs ++ [u]).length ≤ sizeLine := by
      rw [List.length_append, z6.length]
      exact sz6 (Nat.succ_le_of_lt hl)
    refine ⟨_, vs, u, rfl, rfl, z2, ?_, kk _ _ h1 .non wd1 _ le1 (r1.mut (gt_eq _ _ e1) z0 (z6.append (.cons rp1 .nil)) hz) .non⟩
    rw [List.length_append] at hz
    exact hz
theorem je_extend (i : Nat) {w : W D} (he : JB T X E e w) (hN : X.N[i]? = some x := by rfl) (hv : Vis X.env.scope x := by first | exact Or.inl rfl | exact Or.inr (Or.inl rfl) | exact Or.inr (Or.inr rfl)) (hd : (x == ("__debug__" : Str)) = false := by decide)
    (hcd : (x == ("__classdict__" : Str)) = false := by decide) (hbase : attributeBase (.Name x p) "extend" X.env (eval (.Name x p) X.env) = eval (.Name x p) X.env := by rfl)
    (hfew : ((backTo pos (starEach [e] X.env)).all (fun x => !x.1) && (backToKw pos (keywordEach [] X.env)).all (fun x => x.1.isSome) && decide ([e].length + ([] : List Keyword).length + (if ([] : List Keyword).isEmpty then 0 else 1) < 30)) = true := by rfl)
    (hline : (apos.endLine == pos.line) = true := by rfl) (hs : starEach [e] X.env = (false, eval e X.env) :: starEach [] X.env := by rfl) (hpl : (backTo pos (starEach [] X.env)).any (·.1) = false := by rfl) : JE T X E (.Call (.Attribute (.Name x p) "extend" apos) [e] [] pos) (wExtend i w) :=
  peI (pe_bm F.plainAttrs_list F.slot_list_extend F.type_list_extend mt_extend (pe_var hN hv hd hcd) (pa_cons he pa_nil hs) hbase hfew hline hs hpl) fun σ H Q ⟨c, wd, env, P, Ex, rl, h, xo, kk⟩ => by
    obtain ⟨xs0, e0, h⟩ := ownIs_inv h
    obtain ⟨p0, vs0, z0, zh, _⟩ := rl.own i xs0 (gt_eq _ _ e0)
    refine ⟨.ref p0, z0, .inl ⟨rfl, vs0, .inl (.inl zh)⟩, c, wd, env, _, Ex, rl, h, xo, fun y env1 h1 u wd1 H1 le1 r1 rp1 => ?_⟩
    obtain ⟨xs, e1, h2⟩ := ownIs_inv h1
    clear h1
    have h1 := h2
    clear h2
    obtain ⟨p1, vs, z1, z2, z3, z4, z5, z6⟩ := r1.own i xs (gt_eq _ _ e1)
    rw [z0] at z1
    cases z1
    split at h1
    · rename_i ys
      obtain ⟨q, us, rfl, q1, q2⟩ := top_lst r1.good rp1
      have hz : vs.length + us.length ≤ sizeLine := by
        rw [z6.length, q2.length]
        exact sz6 h1.1
      refine ⟨_, _, vs, us, rfl, rfl, z2, q1, hz, kk _ _ h1.2 .non wd1 _ le1 (r1.mut (gt_eq _ _ e1) z0 (z6.append q2) ?_) .non⟩
      rw [List.length_append]
      exact hz
    · exact h1.elim
end
end
end Pd

namespace Pd
open PySem PySem.Spec PyProof.Rows L2 LamX

theorem en_new {v : Value} {o : Obj} {G : Heap → Prop} (B : Begins v o G) :
    Meets (Builtin.«enumerate.__new__» ⟨[.type "enumerate", v], []⟩) (fun _ R s => G s.heap ∧
      R (.ok (.ret (.ref (s.heap.push o).objs.size))) { s with heap := (s.heap.push o).push { cls := .type "enumerate", data := .fields #[.none, .bool false, .ref s.heap.objs.size, rawInt 0, .none, .none] } }) :=
  .of_wp fun prog w A R s hh => by
    obtain ⟨hp, gs, dr, tk, os⟩ := s
    obtain ⟨h1, h⟩ := hh
    have hsub := sub_enumerate
    have go : ∀ {A' : Around} {E : Value → Shared → Prop} {Q : Value → Shared → Prop}, Q (.ref hp.objs.size) ⟨hp.push o, gs, dr, tk, os⟩ → wpAny (model prog w) A' (pyIter v) Q E ⟨hp, gs, dr, tk, os⟩ :=
      fun q => B.iter prog w _ _ ⟨hp, gs, dr, tk, os⟩ _ h1 q
    wp_walk using go
    refine wpAny_stack_any fun stk => wpAny_pure ?_
    split
    · rename_i c _ _ _ _ _
      cases (c == Value.type "enumerate")
      all_goals
        wp_walk using go
        exact ⟨_, rfl, h⟩
    · wp_walk using go
      exact ⟨_, rfl, h⟩
theorem en_call {prog : Program} {w : World} {A : Around} {E : Value → Shared → Prop} {s : Shared} {v : Value} {o : Obj} {G : Heap → Prop} {Q : Value → Shared → Prop} (B : Begins v o G) (h1 : G s.heap)
    (h : ∀ h', IsEnum h' (s.heap.objs.size + 1) s.heap.objs.size 0 .none → h'.get? s.heap.objs.size = some o → (∀ b u, s.heap.get? b = some u → h'.get? b = some u) → Q (.ref (s.heap.objs.size + 1)) { s with heap := h' }) :
    wpAny (model prog w) A (call (.type "enumerate") [v]) Q E s := by
  refine callType_new F.called_enumerate (by decide) (F.typeCall_enumerate_1 _) (F.newCall_enumerate_1 _) (fun obj => F.args_object_init_2 obj _) F.entry_enumerate_new (en_new B) ⟨h1, ?_⟩
  have sz : (s.heap.push o).objs.size = s.heap.objs.size + 1 := Heap.size_push ..
  show _ ∧ _
  rw [sz]
  have he : IsEnum ((s.heap.push o).push { cls := .type "enumerate", data := .fields #[.none, .bool false, .ref s.heap.objs.size, rawInt 0, .none, .none] }) (s.heap.objs.size + 1) s.heap.objs.size 0 .none := by
    have q := Heap.get?_push_size (s.heap.push o) (o := { cls := .type "enumerate", data := .fields #[.none, .bool false, .ref s.heap.objs.size, rawInt 0, .none, .none] }) rfl
    rw [sz] at q
    exact q
  exact ⟨⟨_, he, rfl⟩, h _ he (Heap.get?_push_of_some _ (Heap.get?_push_size _ B.free)) fun b u x => Heap.get?_push_of_some _ (Heap.get?_push_of_some _ x)⟩
def ItT (K : PySem.W.Frag) (a : Addr) : It :=
  ⟨fun i H => ∃ (xs : List V) (x : V), SqT K H a xs ∧ xs[i]? = some x, fun i H v H' => ∃ p x, v = .ref p ∧ H p = none ∧ H' = upd H p (.tup [.int (i : Nat), x]) ∧ ∀ xs, SqT K H a xs → xs[i]? = some x, fun i H => ∃ xs : List V, SqT K H a xs ∧ xs.length = i⟩
structure EnT (a e t : Addr) (i : Nat) (h : Heap) : Prop where
  num : ∃ old, IsEnum h e t (i : Int) old
  itr : h.IsTupleIter t a i
  et : e ≠ t
  at_ : a ≠ t
  ea : e ≠ a
theorem two_of {e t b : Addr} (h : b ∈ [e, t]) : b = e ∨ b = t := by simpa using h
theorem EnT.lt {a e t : Addr} {i : Nat} {h : Heap} (z : EnT a e t i h) : ∀ b ∈ [e, t], b < h.objs.size := by
  obtain ⟨_, n⟩ := z.num
  obtain ⟨_, m, _⟩ := z.itr
  intro b hb
  rcases two_of hb with rfl | rfl
  · exact Heap.lt_size n
  · exact Heap.lt_size m
theorem EnT.goes {X : Cx} {pins : List (Addr × Obj)} {σ : L2.St} {H : Hp} {s : Shared} {a e t : Addr} {i tk : Nat} {x : V} {u : Value} {h1 h2 : Heap} {xs : List V} (z : EnT a e t i s.heap) (I : Inv X pins σ H s) (free : ∀ b ∈ [e, t], FpOk X pins H b) (hq : SqT X.K H a xs) (hx : xs[i]? = some x) (ru : RelV x u)
    (pair : h1.get? s.heap.objs.size = some { cls := .type "tuple", data := .seq #[.int i tk, u] }) (old : ∀ b o, b ≠ e → b ≠ t → s.heap.get? b = some o → h1.get? b = some o) (next : h1.IsTupleIter t a (i + 1)) (num : IsEnum h2 e t ((i : Int) + 1) u) (but : Heap.SameBut e h1 h2) :
    ∃ y H', Inv X pins σ H' { s with heap := h2, toks := tk + 1 } ∧ RelV y (.ref s.heap.objs.size) ∧ (ItT X.K a).yld i H y H' ∧ EnT a e t (i + 1) h2 ∧ ∀ b ∈ [e, t], H' b = none := by
  have room : H s.heap.objs.size = none := I.hok.fresh (Nat.le_refl _)
  have low := z.lt
  have there : h2.get? s.heap.objs.size = some { cls := .type "tuple", data := .seq #[.int i tk, u] } := by
    rw [but.2 _ (Nat.ne_of_gt (low e (by simp)))]
    exact pair
  have obj : ObjOk X.prog X.w (upd H s.heap.objs.size (.tup [.int i, x])) h2 s.heap.objs.size (.tup [.int i, x]) := ⟨show 2 ≤ sizeLine by decide, _, .cons ⟨tk, rfl⟩ (.cons ru .nil), _, there, rfl, _, rfl⟩
  have kept : ∀ b o, b ∉ [e, t] → s.heap.get? b = some o → h2.get? b = some o := fun b o nb g => by
    have n1 : b ≠ e := fun y => nb (by simp [y])
    rw [but.2 b n1]
    exact old b o n1 (fun y => nb (by simp [y])) g
  refine ⟨.ref s.heap.objs.size, _, I.turnedNew kept free (Nat.le_refl _) obj, rfl, ⟨_, x, rfl, room, rfl, fun ys hy => ?_⟩, ?_, fun b hb => ?_⟩
  · rw [I.tuple_inj hy hq]
    exact hx
  · refine ⟨⟨u, ?_⟩, next.at fun o g => ?_, z.et, z.at_, z.ea⟩
    · rw [Int.natCast_succ]
      exact num
    · rw [but.2 t z.et.symm]
      exact g
  · rw [upd_ne (Nat.ne_of_lt (low b hb))]
    exact (free b hb).1
theorem turn_enT {P : Program} {w : World} {K : PySem.W.Frag} {elts : List Expr} {kk : Nat} {tpos : Pos} (a e t : Addr) : Turn P w K (.Tuple elts kk tpos) (ItT K a) [e, t] e (EnT a e t) where
  mem := List.mem_cons_self
  obj i h z b hb := by
    obtain ⟨old, n⟩ := z.num
    obtain ⟨o, m, _, dt⟩ := z.itr
    rcases two_of hb with rfl | rfl
    · exact ⟨_, n, by simp⟩
    · exact ⟨o, m, by simp [dt]⟩
  keep i h h' z k := by
    obtain ⟨old, n⟩ := z.num
    exact ⟨⟨old, k e (by simp) _ n⟩, z.itr.at (k t (by simp)), z.et, z.at_, z.ea⟩
  item := by
    rintro X rfl rfl rfl calm i pins s σ H E I free z ⟨xs, x, hq, hx⟩
    obtain ⟨its, rv, tup, _⟩ := I.tuple hq
    obtain ⟨u, hu, ru⟩ := rv.get hx
    obtain ⟨old, n⟩ := z.num
    have quiet : X.A.in1.handled = none := I.ok.hd calm
    have far : e ∉ [t, a] := by simp [z.et, z.ea]
    have more : i < its.toArray.size := by simpa using (List.getElem?_eq_some_iff.mp hu).1
    refine wpAny_pyNext_enum_itemD (Draws.tuple quiet t a z.at_ its.toArray) n ⟨z.itr, tup⟩ more z.et far fun v h1 tk hv out st pair _ keeps => ?_
    obtain rfl : v = u := by
      rw [← Array.getElem?_toList] at hv
      exact Option.some.inj (hv.symm.trans hu)
    exact ⟨_, rfl, wpAny_letOwnedTupleGo_enum (s := { s with heap := h1, toks := tk + 1 }) out fun h2 num but => z.goes I free hq hx ru pair keeps st.1 num but⟩
  done := by
    rintro X rfl rfl rfl calm i pins s σ H E I free z ⟨xs, hq, rfl⟩
    obtain ⟨its, rv, tup, _⟩ := I.tuple hq
    obtain ⟨old, n⟩ := z.num
    have quiet : X.A.in1.handled = none := I.ok.hd calm
    have all : its.toArray.size = xs.length := by simp [rv.length]
    obtain ⟨g0, g1, _, g3, g4, g5⟩ := free t (by simp)
    exact wpAny_pyNext_enum_endD (Draws.tuple quiet t a z.at_ its.toArray) n ⟨all ▸ z.itr, tup⟩ fun h1 but => ⟨rfl, I.turned (t' := s.toks) but g0 g1 g3 g4 g5⟩
  self A i s Q E z h := by
    obtain ⟨_, n⟩ := z.num
    exact wpAny_pyIter_enum n h
def iEnT (K : PySem.W.Frag) (ta : TA) : TI := fun σ H R => ta σ H fun vs H1 => ∃ a xs, vs = [.ref a] ∧ ((SqL K H1 a xs ∧ R (Ite K a) H1) ∨ (SqT K H1 a xs ∧ R (ItT K a) H1))
theorem pi_enT {X : Cx} {e : Expr} {ta : TA} {p pos tpos : Pos} {elts : List Expr} {kk : Nat} (hg : Gl X "enumerate") (hm : X.mg "enumerate" = none) (ha : PA X [e] ta) (hs : starEach [e] X.env = [(false, eval e X.env)] := by rfl) :
    PI X (.Tuple elts kk tpos) (.Call (.Name "enumerate" p) [e] [] pos) (iEnT X.K ta) := by
  constructor
  intro pins s σ H R I h
  refine Call_ ?_
  apply ld_blt I hg hm boot_enumerate
  apply PyProof.Rows.callWith_type1 _ hs rfl
  apply thn (ha.run pos pins s σ H _ I h)
  rintro us s1 ⟨_, H1, I1, r1, a, xs, rfl, q⟩
  obtain ⟨rfl⟩ : us = [.ref a] := Vals.ref1 r1
  have top : ∀ b ∈ [s1.heap.objs.size + 1, s1.heap.objs.size], FpOk X pins H1 b := fun b hb => by
    have le : s1.heap.objs.size ≤ b := by
      rcases two_of hb with rfl | rfl
      · exact Nat.le_succ _
      · exact Nat.le_refl _
    exact I1.fpOk le (I1.hok.fresh le)
  rcases q with ⟨hq, q⟩ | ⟨hq, q⟩
  · obtain ⟨its, _, lst, _⟩ := I1.list hq
    apply en_call (begins_list a its.toArray) lst.isList
    intro h1 num new keeps
    apply wpAny_pyIter_enum num
    exact ⟨_, _, _, _, H1, rfl, I1.kept (t' := s1.toks) keeps, turn_enum a _ _, ⟨⟨.none, num⟩, ⟨_, new, rfl, rfl⟩, Nat.succ_ne_self _⟩, top, q⟩
  · obtain ⟨its, _, tup, _⟩ := I1.tuple hq
    have low : a < s1.heap.objs.size := by
      obtain ⟨_, g, _⟩ := tup
      exact Heap.lt_size g
    apply en_call (begins_tuple a its.toArray) tup
    intro h1 num new keeps
    apply wpAny_pyIter_enum num
    exact ⟨_, _, _, _, H1, rfl, I1.kept (t' := s1.toks) keeps, turn_enT a _ _, ⟨⟨.none, num⟩, ⟨_, new, rfl, rfl⟩, Nat.succ_ne_self _, Nat.ne_of_lt low, Nat.ne_of_gt (Nat.lt_succ_of_lt low)⟩, top, q⟩
section
variable {X : Cx} {T : List (Addr × Str)} {E : XK} {k : Nat}
def enD (n : Nat) : List D → List D
  | [] => []
  | x :: xs => .tup [.int n, x] :: enD (n + 1) xs
theorem enD_len : ∀ (n : Nat) (xs : List D), (enD n xs).length = xs.length
  | _, [] => rfl
  | n, _ :: xs => congrArg (· + 1) (enD_len (n + 1) xs)
theorem enD_get : ∀ (n i : Nat) (xs : List D) (x : D), xs[i]? = some x → (enD n xs)[i]? = some (.tup [.int (n + i : Nat), x])
  | _, _, [], _, h => by simp at h
  | n, 0, y :: xs, x, h => by
    simp at h
    subst h
    rfl
  | n, i + 1, y :: xs, x, h => by
    have := enD_get (n + 1) i xs x (by simpa using h)
    rw [Nat.add_assoc, Nat.add_comm 1 i] at this
    simpa [enD] using this
def wEnum (a : W D) : W (List D) := a.bind fun x env Q _ => match dItems x with
  | some xs => Q (enD 0 xs) env
  | none => False
theorem yd_en {K : PySem.W.Frag} {wd : Wd} {xs : List D} {us : List V} {i : Nat} {H H' : Hp} {x v : V} {p : Addr} (ru : Reps K wd us xs) (ev : v = .ref p) (hp : H p = none) (eH : H' = upd H p (.tup [.int (i : Nat), x])) (e1 : us[i]? = some x) :
    ∃ d, (enD 0 xs)[i]? = some d ∧ YD K wd d H v H' := by
  obtain ⟨d1, f1, r1⟩ := ru.getV e1
  have := enD_get 0 i xs d1 f1
  rw [Nat.zero_add] at this
  exact ⟨_, this, .inr (.inl ⟨p, [.int (i : Nat), x], [.int (i : Nat), d1], ev, hp, eH, rfl, .cons (.int _) (.cons r1 .nil), by show 2 ≤ sizeLine; decide⟩)⟩
theorem ji_enum {e : Expr} {w : W D} {p pos tpos : Pos} {elts : List Expr} {kk : Nat} (hg : Gl X "enumerate") (hm : X.mg "enumerate" = none) (he : JE T X E e w) (hs : starEach [e] X.env = [(false, eval e X.env)] := by rfl) (hs2 : starEach [e] X.env = (false, eval e X.env) :: starEach [] X.env := by rfl) :
    JI T X E (.Tuple elts kk tpos) (.Call (.Name "enumerate" p) [e] [] pos) (wEnum w) :=
  piI (pi_enT hg hm (pa_cons he pa_nil hs2) hs) fun σ H R ⟨c, wd, env, P, Ex, r, h, xo, kk⟩ => ⟨c, wd, env, _, Ex, r, h, xo, fun x env1 h1 v wd1 H1 le1 r1 rp1 => by
    dsimp only at h1
    split at h1
    · rename_i xs ex
      cases x with
      | lst ys =>
        cases ex
        cases rp1 with
        | lst hs1 rs1 =>
          have q1 := sub_sqL (K := X.K) r1.good hs1
          refine ⟨_, _, rfl, .inl ⟨q1, kk _ env1 h1 _ wd1 H1 le1 r1 ?_ (by rw [enD_len, ← rs1.length]; exact (r1.good.ntb _ _ hs1).2)⟩⟩
          unfold WalkD
          rw [enD_len, ← rs1.length]
          refine ⟨fun i H hi z => ⟨_, _, .inl (.inl (z _ _ hs1)), List.getElem?_eq_getElem hi⟩, fun H z => ⟨_, .inl (.inl (z _ _ hs1)), Nat.le_refl _⟩, fun i H x H' hi z y => ?_⟩
          obtain ⟨p, a, e1, e2, e3, e4⟩ := y
          exact yd_en rs1 e1 e2 e3 (e4 _ (.inl (.inl (z _ _ hs1))))
      | tup ys =>
        cases ex
        cases rp1 with
        | tup hs1 rs1 =>
          have q1 := sub_sqT (K := X.K) r1.good hs1
          refine ⟨_, _, rfl, .inr ⟨q1, kk _ env1 h1 _ wd1 H1 le1 r1 ?_ (by rw [enD_len, ← rs1.length]; exact siz_sqT r1.good hs1)⟩⟩
          unfold WalkD
          rw [enD_len, ← rs1.length]
          refine ⟨fun i H hi z => ⟨_, _, sqT_sub X.K z hs1, List.getElem?_eq_getElem hi⟩, fun H z => ⟨_, sqT_sub X.K z hs1, rfl⟩, fun i H x H' hi z y => ?_⟩
          obtain ⟨p, a, e1, e2, e3, e4⟩ := y
          exact yd_en rs1 e1 e2 e3 (e4 _ (sqT_sub X.K z hs1))
      | _ => cases ex
    · exact h1.elim⟩
def bokB (j n : Int) : Prop := 0 ≤ n ∧ ((j = 0 ∧ n < 2 ^ 4000) ∨ (j = 1 ∧ n < 2 ^ 100) ∨ j = 2)
def wBoxGet (a b : W D) : W D := a.bind fun x => b.bind fun y env Q _ => match x, y with
  | .box _, .int j => 0 ≤ j ∧ j ≤ 2 ∧ ∀ n, bokB j n → Q (.int n) env
  | _, _ => False
theorem je_boxGet {a b : Expr} {wa wb : W D} {pos : Pos} (ha : JE T X E a wa) (hb : JE T X E b wb) (hs : PlainIx b) : JE T X E (.Subscript a b pos) (wBoxGet wa wb) := by
  refine peI (pe_ix ix_list ha hb hs) fun σ H Q ⟨c, wd, env, P, Ex, rl, h, xo, kk⟩ => ⟨c, wd, env, _, Ex, rl, h, xo, fun x env1 h1 v wd1 H1 le1 r1 rp1 => ⟨c, wd1, env1, _, Ex, r1, h1, xo, fun y env2 h2 u wd2 H2 le2 r2 rp2 => ?_⟩⟩
  dsimp only at h2
  split at h2
  · rename_i q j
    cases rp2
    cases rp1 with
    | box hb0 =>
      have hb := le2.b _ hb0
      obtain ⟨_, g, s, cc, e1, g0, g1, s0, s1, c0⟩ := r2.good.box _ hb
      obtain ⟨j0, j2, h2⟩ := h2
      have : j = 0 ∨ j = 1 ∨ j = 2 := by omega
      rcases this with rfl | rfl | rfl
      · exact ⟨_, _, _, .int g, rfl, rfl, .inl (.inl e1), rfl, kk _ env2 (h2 g ⟨g0, .inl ⟨rfl, g1⟩⟩) _ wd2 H2 (le1.trans le2) r2 (.int _)⟩
      · exact ⟨_, _, _, .int s, rfl, rfl, .inl (.inl e1), rfl, kk _ env2 (h2 s ⟨s0, .inr (.inl ⟨rfl, s1⟩)⟩) _ wd2 H2 (le1.trans le2) r2 (.int _)⟩
      · exact ⟨_, _, _, .int cc, rfl, rfl, .inl (.inl e1), rfl, kk _ env2 (h2 cc ⟨c0, .inr (.inr rfl)⟩) _ wd2 H2 (le1.trans le2) r2 (.int _)⟩
  · exact h2.elim
theorem Rel.boxSet {K : PySem.W.Frag} {c : Ctx} {wd : Wd} {env : PEnv} {σ : L2.St} {H : Hp} (r : Rel K T c wd env σ H) {b : Addr} (hb : b ∈ wd.B) {g s cc : Int} (h : 0 ≤ g ∧ g < 2 ^ 4000 ∧ 0 ≤ s ∧ s < 2 ^ 100 ∧ 0 ≤ cc) : Rel K T c wd env σ (upd H b (.lst [.int g, .int s, .int cc])) := by
  obtain ⟨m0, g', s', c', e, _⟩ := r.good.box b hb
  refine r.go (Ord.refl _ _) ⟨fun a o q => ?_, r.good.ntb, fun b' hb' => ?_, fun q hq => ?_, siz_upd r.good.siz (by show 3 ≤ sizeLine; decide)⟩ ⟨fun a o q n t => ?_, fun a q => ?_⟩
  · rw [upd_ne (fun z => by rw [z, m0] at q; cases q)]
    exact r.good.sub a o q
  · obtain ⟨z1, g2, s2, c2, z2, z3⟩ := r.good.box b' hb'
    by_cases hbb : b' = b
    · subst hbb
      exact ⟨z1, g, s, cc, upd_same, h⟩
    · exact ⟨z1, g2, s2, c2, by rw [upd_ne hbb]; exact z2, z3⟩
  · obtain ⟨ps, z1, z2, z3⟩ := r.good.tab q hq
    refine ⟨ps, ?_, z2, fun pos cv hc => ?_⟩
    · rw [upd_ne (fun z => by rw [z, e] at z1; cases z1)]
      exact z1
    · obtain ⟨a, y1, y2⟩ := z3 pos cv hc
      refine ⟨a, y1, ?_⟩
      rw [upd_ne (fun z => by rw [z, e] at y2; cases y2)]
      exact y2
  · rw [upd_ne (fun z => n (by rw [z]; exact hb))]
    exact q
  · by_cases ha : a = b
    · subst ha
      exact (q.no upd_same noTb_lst).elim
    · exact q.upd ha
def sBoxSet (i : Nat) (j : Int) (ew : W D) : WS := fun pe env => ew env (fun v env1 => match gt env1 i, v with
  | some (.d (.box _)), .int n => 0 ≤ j ∧ j ≤ 2 ∧ bokB j n ∧ pe.nx env1
  | _, _ => False) pe.ex
theorem js_boxSet (i : Nat) {j : Int} {x : Str} {e : Expr} {ew : W D} {p1 p2 pos py : Pos} {jj} (he : JE T X E e ew) (hN : X.N[i]? = some x := by rfl) (hv : Vis X.env.scope x := by first | exact Or.inl rfl | exact Or.inr (Or.inl rfl) | exact Or.inr (Or.inr rfl)) (hd : (x == ("__debug__" : Str)) = false := by decide)
    (hcd : (x == ("__classdict__" : Str)) = false := by decide) (hs : swapsWithSole [.Subscript (.Name x p1) (.Constant (.int j) jj py) p2] e pos.line X.env = pure false := by rfl) (hw : swappedStores [.Subscript (.Name x p1) (.Constant (.int j) jj py) p2] e X.env = pure none := by rfl)
    (h1 : (assignEach [.Subscript (.Name x p1) (.Constant (.int j) jj py) p2] X.env).map (·.2) = [assign (.Subscript (.Name x p1) (.Constant (.int j) jj py) p2) X.env] := by rfl)
    (hasg : ∀ v, assign (.Subscript (.Name x p1) (.Constant (.int j) jj py) p2) X.env v = (do
      let ov ← holding [v] (eval (.Name x p1) X.env)
      let iv ← holding [v, ov] (eval (.Constant (.int j) jj py) X.env)
      standAt p2
      holding [v, ov, iv] (setItem ov iv v)
      release [v, ov, iv] []) := by intro _; rfl) : JS T X E (.Assign [.Subscript (.Name x p1) (.Constant (.int j) jj py) p2] e pos) (sBoxSet i j ew) :=
  psI (ps_asg he (pg_sub (pe_var hN hv hd hcd) pe_int set_list hasg) hs hw h1) fun D σ H ⟨c, wd, env, pe, rl, h, o⟩ => by
    refine ⟨c, wd, env, _, _, rl, h, o.ex, fun v env1 hh u wd1 H1 le1 r1 rp1 => ?_⟩
    split at hh
    · rename_i q n eg
      cases rp1
      obtain ⟨v0, z0, z1⟩ := r1.dat i _ (gt_eq _ _ eg)
      cases z1 with
      | box hb =>
        obtain ⟨m0, g, s, cc, e1, g0, g1, s0, s1, c0⟩ := r1.good.box _ hb
        obtain ⟨j0, j2, bk, hnx⟩ := hh
        refine ⟨.ref q, z0, ?_⟩
        have : j = 0 ∨ j = 1 ∨ j = 2 := by omega
        rcases this with rfl | rfl | rfl
        · refine ⟨_, _, _, 0, rfl, rfl, e1, rfl, o.nx _ hnx _ wd1 _ le1 (r1.boxSet hb (g := n) (s := s) (cc := cc) ⟨bk.1, ?_, s0, s1, c0⟩)⟩
          rcases bk.2 with z | z | z <;> first | exact z.2 | omega
        · refine ⟨_, _, _, 1, rfl, rfl, e1, rfl, o.nx _ hnx _ wd1 _ le1 (r1.boxSet hb (g := g) (s := n) (cc := cc) ⟨g0, g1, bk.1, ?_, c0⟩)⟩
          rcases bk.2 with z | z | z
          · exact absurd z.1 (by decide)
          · exact z.2
          · exact absurd z (by decide)
        · exact ⟨_, _, _, 2, rfl, rfl, e1, rfl, o.nx _ hnx _ wd1 _ le1 (r1.boxSet hb (g := g) (s := s) (cc := n) ⟨g0, g1, s0, s1, bk.1⟩)⟩
    · exact hh.elim
def wBox (w : W (List D)) : W D := w.bind fun xs env Q _ => match xs with
  | [.int g, .int s, .int c] => (0 ≤ g ∧ g < 2 ^ 4000 ∧ 0 ≤ s ∧ s < 2 ^ 100 ∧ 0 ≤ c) ∧ ∀ p, Q (.box p) env
  | _ => False
theorem je_box {e : Expr} {w : W (List D)} (h : JF T X E e w) : JE T X E e (wBox w) :=
  peI h fun σ H Q ⟨c, wd, env, P, Ex, r, h, xo, k⟩ => ⟨c, wd, env, _, Ex, r, h, xo, fun xs env' p b wd' H' le r' rp => by
    dsimp only at p
    split at p
    · rename_i g s cc
      obtain ⟨q, vs, rfl, h1, h2, h3, h4, h5, h6, h7⟩ := rp
      obtain rfl : vs = [.int g, .int s, .int cc] := Reps.ints (ns := [g, s, cc]) h5
      have le' : Le wd' ⟨wd'.M, q :: wd'.B⟩ := ⟨Sub.refl _, fun a ha => List.mem_cons_of_mem _ ha⟩
      refine k _ env' (p.2 q) (.ref q) ⟨wd'.M, q :: wd'.B⟩ H' (le.trans le') ?_ (.box List.mem_cons_self)
      refine ⟨⟨r'.ord.le.trans le', r'.ord.fm, fun a ha => ?_⟩, ⟨r'.good.sub, r'.good.ntb, fun a ha => ?_, r'.good.tab, r'.good.siz⟩, r'.keep, r'.len, fun i d z => ?_, fun i ys z => ?_, r'.sep, fun qq hq => ?_, ⟨fun i p0 C fs z => ?_, r'.ext.ob1, fun i cs z qq hq => ?_, r'.ext.cnd, r'.ext.ce1, fun i lk kvs z => ?_, r'.ext.dc1⟩⟩
      · rcases List.mem_cons.mp ha with rfl | ha
        · exact .inr h4
        · exact r'.ord.fb a ha
      · rcases List.mem_cons.mp ha with rfl | ha
        · exact ⟨h2, g, s, cc, h1, p.1⟩
        · exact r'.good.box a ha
      · obtain ⟨v, y1, y2⟩ := r'.dat i d z
        exact ⟨v, y1, y2.mono le'⟩
      · obtain ⟨p2, us, y1, y2, y3, y4, y5, y6⟩ := r'.own i ys z
        refine ⟨p2, us, y1, y2, y3, fun hb => ?_, y5, y6.mono le'⟩
        rcases List.mem_cons.mp hb with rfl | hb
        · exact h6.o i ys z y1
        · exact y4 hb
      · obtain ⟨y1, y2, y3, y4⟩ := r'.pin qq hq
        refine ⟨y1, y2, fun hb => ?_, y4⟩
        rcases List.mem_cons.mp hb with z | hb
        · exact h7 qq hq z
        · exact y3 hb
      · obtain ⟨dx, vs, y1, y2, y3, y4, y5, y6⟩ := r'.ext.obj i p0 C fs z
        exact ⟨dx, vs, y1, y2, y3, y4, y5, y6.mono le'⟩
      · obtain ⟨⟨vs, y1, y2⟩, y3, y4, y5, y6⟩ := r'.ext.cel i cs z qq hq
        refine ⟨⟨vs, y1, y2.mono le'⟩, y3, fun hb => ?_, y5, y6⟩
        rcases List.mem_cons.mp hb with e | hb
        · exact h6.c i cs z qq hq e
        · exact y4 hb
      · obtain ⟨p0, vs, y1, y2, y3, y4, y5, y6⟩ := r'.ext.dct i lk kvs z
        exact ⟨p0, vs, y1, y2, y3, y4, y5, y6.mono le'⟩
    · exact p.elim⟩
end
end Pd

namespace Pd
open PySem PySem.Spec PyProof.Rows L2 LamX

section
variable {X : Cx} {T : List (Addr × Str)} {E : XK} {k : Nat}
theorem Bd.u (B : Bd X E k) : X.A.units + 200 < cLine := by have := B.room.un; omega
theorem Bd.u64 (B : Bd X E k) : X.A.units + 64 < cLine := by have := B.room.un; omega
theorem Bd.u65 (B : Bd X E k) : X.A.units + 65 < cLine := by have := B.room.un; omega
theorem Rel.frzF {K : PySem.W.Frag} {c : Ctx} {wd : Wd} {env : PEnv} {σ : L2.St} {H : Hp} {v : V} {xs : List D} (r' : Rel K T c wd env σ H) (rp : rF K c wd env σ H v xs) : ∃ wd', Le wd wd' ∧ Rel K T c wd' env σ H ∧ Rep K wd' v (.lst xs) := by
  obtain ⟨q, vs, rfl, h1, h2, h3, h4, h5, h6, h7⟩ := rp
  have le' : Le wd (wd.add q (.lst vs)) := Le.add h2
  refine ⟨wd.add q (.lst vs), le', ?_, .lst upd_same (h5.mono le')⟩
  have uq : ∀ {a : Addr} {o : HO}, (wd.add q (.lst vs)).M a = some o → (a = q ∧ o = .lst vs) ∨ wd.M a = some o := fun {a o} z => by
    by_cases ha : a = q
    · subst ha
      have z' : upd wd.M a (.lst vs) a = some o := z
      rw [upd_same] at z'
      cases z'
      exact .inl ⟨rfl, rfl⟩
    · have z' : upd wd.M q (.lst vs) a = some o := z
      rw [upd_ne ha] at z'
      exact .inr z'
  refine ⟨⟨r'.ord.le.trans le', fun a o z => ?_, r'.ord.fb⟩, ⟨fun a o z => ?_, fun a o z => ?_, fun b hb => ?_, r'.good.tab, r'.good.siz⟩, r'.keep, r'.len, fun i d z => ?_, fun i ys z => ?_, r'.sep, fun qq hq => ?_, r'.ext.addM h2 h6.c h1⟩
  · rcases uq z with ⟨rfl, rfl⟩ | z
    · exact .inr (.inl h4)
    · exact r'.ord.fm a o z
  · rcases uq z with ⟨rfl, rfl⟩ | z
    · exact h1
    · exact r'.good.sub a o z
  · rcases uq z with ⟨rfl, rfl⟩ | z
    · exact ⟨noTb_lst, r'.good.siz _ _ h1⟩
    · exact r'.good.ntb a o z
  · obtain ⟨z1, z2⟩ := r'.good.box b hb
    refine ⟨?_, z2⟩
    show upd wd.M q (.lst vs) b = none
    rw [upd_ne (show b ≠ q from fun z => h3 (z ▸ hb))]
    exact z1
  · obtain ⟨v, y1, y2⟩ := r'.dat i d z
    exact ⟨v, y1, y2.mono le'⟩
  · obtain ⟨p2, us, y1, y2, y3, y4, y5, y6⟩ := r'.own i ys z
    refine ⟨p2, us, y1, y2, ?_, y4, y5, y6.mono le'⟩
    show upd wd.M q (.lst vs) p2 = none
    rw [upd_ne (show p2 ≠ q from fun zz => h6.o i ys z (by rw [← zz]; exact y1))]
    exact y3
  · obtain ⟨y1, y2, y3, y4⟩ := r'.pin qq hq
    refine ⟨y1, ?_, y3, y4⟩
    show upd wd.M q (.lst vs) qq.1 = none
    rw [upd_ne (show qq.1 ≠ q from fun zz => h7 qq hq zz)]
    exact y2
theorem js_setCompD (i : Nat) {y : Str} {elt iter tg : Expr} {ifs : List Expr} {scope : Scope} (own : List (Str × Nat)) {pos spos py : Pos} {w : W (List D)} {g : WG} {wt : W Bool} {we : W D} (B : Bd X E k) (hi : JI T X E tg iter w) (ok : BlkOk X.N X.env.scope scope own)
    (hg : ∀ (s : Shared) (H : Hp) (C : Addr) (cl : List (Str × Addr)) (fp : List Addr), JG T (X.blk s H scope (compEnvC scope cl C X.env) fp) (own.map (·.2)) tg g)
    (ht : ∀ (s : Shared) (H : Hp) (C : Addr) (cl : List (Str × Addr)) (fp : List Addr), Bd (X.blk s H scope (compEnvC scope cl C X.env) fp) E0 k → JTs T (X.blk s H scope (compEnvC scope cl C X.env) fp) E0 ifs wt)
    (he : ∀ (s : Shared) (H : Hp) (C : Addr) (cl : List (Str × Addr)) (fp : List Addr), Bd (X.blk s H scope (compEnvC scope cl C X.env) fp) E0 k → JE T (X.blk s H scope (compEnvC scope cl C X.env) fp) E0 elt we)
    (hsw : swapsWith (.ListComp elt [⟨tg, iter, ifs, 0⟩] scope pos) (some (.Name y py)) spos.line X.env = pure true) (hy : X.N[i]? = some y := by rfl) (hyl : X.env.scope.names.lookup y = some .local := by rfl)
    (hs : ∀ x, foldedSetIterable iter X.env x = pure x := by intro _; rfl) : JS T X E (.Assign [.Name y py] (.ListComp elt [⟨tg, iter, ifs, 0⟩] scope pos) spos) (sSet i (wLst (wComp w g wt we (own.map (·.2))))) := by
  have Bb : ∀ (s : Shared) (H : Hp) (C : Addr) (cl : List (Str × Addr)) (fp : List Addr), Bd (X.blk s H scope (compEnvC scope cl C X.env) fp) E0 k := fun s H C cl fp => ⟨B.room, passL, PassesOwn.never, B.calm, B.nd⟩
  exact psI (ps_setLc B.calm B.nd hy hyl hsw hi ok hg (fun s H C cl fp => ht s H C cl fp (Bb s H C cl fp)) (fun s H C cl fp => he s H C cl fp (Bb s H C cl fp)) hs) fun D σ H ⟨c, wd, env, pe, r, h, o⟩ =>
    lc_lift ⟨c, wd, env, fun xs env' => pe.nx (env'.set i (some (.d (.lst xs)))), _, r, h, o.ex, fun xs env' h' v wd' H' le r' f => by
      obtain ⟨wd2, le2, r2, rp⟩ := r'.frzF f
      exact o.nx _ h' _ wd2 H' (le.trans le2) (r2.set rp)⟩
def rSl (K : PySem.W.Frag) (c : Ctx) (wd : Wd) (env : PEnv) (σ : L2.St) (H : Hp) : V → Sl → Prop
  | v, .d x => Rep K wd v x
  | v, .own xs => rF K c wd env σ H v xs
  | _, _ => False
def rMs (K : PySem.W.Frag) (c : Ctx) (wd : Wd) (env : PEnv) (σ : L2.St) (H : Hp) : List V → List Sl → Prop
  | [], [] => True
  | v :: vs, s :: ss => rSl K c wd env σ H v s ∧ rMs K c wd env σ H vs ss ∧ ∀ xs, s = .own xs → ∀ (j : Nat) (ys : List D), ss[j]? = some (.own ys) → vs[j]? ≠ some v
  | _, _ => False
abbrev JM (T : List (Addr × Str)) (X : Cx) (E : XK) (es : List Expr) (w : W (List Sl)) : Prop := PA X es (lift X.K T (rMs X.K) E w)
def mNil : W (List Sl) := .ret []
def mE (a : W D) (r : W (List Sl)) : W (List Sl) := a.bind fun x => r.bind fun xs => .ret (.d x :: xs)
theorem jm_nil : JM T X E [] mNil := paI pa_nil fun σ H Q ⟨c, wd, env, P, Ex, r, h, _, k⟩ => k [] env h [] wd H (Le.refl _) r trivial
theorem jm_e {e : Expr} {es : List Expr} {a : W D} {w : W (List Sl)} (ha : JE T X E e a) (hr : JM T X E es w) (hs : starEach (e :: es) X.env = (false, eval e X.env) :: starEach es X.env := by rfl) : JM T X E (e :: es) (mE a w) :=
  paI (pa_cons ha hr hs) fun σ H Q ⟨c, wd, env, P, Ex, r, h, xo, k⟩ =>
    ⟨c, wd, env, _, Ex, r, h, xo, fun x env1 h1 v wd1 H1 le1 r1 rp1 => ⟨c, wd1, env1, _, Ex, r1, h1, xo, fun xs env2 h2 vs wd2 H2 le2 r2 rp2 => k _ env2 h2 (v :: vs) wd2 H2 (le1.trans le2) r2 ⟨Rep.mono le2 rp1, rp2, fun _ z => nomatch z⟩⟩⟩
theorem rMs.set1 {K : PySem.W.Frag} {c : Ctx} {wd : Wd} {env : PEnv} {σ : L2.St} {H : Hp} {v : V} {s : Sl} {vs : List V} {ss : List Sl} (r : Rel K T c wd env σ H) (i : Nat) (m : rMs K c wd env σ H (v :: vs) (s :: ss)) :
    Rel K T c wd (env.set i (some s)) (σ.set i (some v)) H ∧ rMs K c wd (env.set i (some s)) (σ.set i (some v)) H vs ss := by
  obtain ⟨h1, h2, h3⟩ := m
  refine ⟨?_, ?_⟩
  · cases s with
    | d x => exact r.set h1
    | own xs => exact r.ownF h1
    | obj _ _ _ => exact h1.elim
    | cels _ => exact h1.elim
    | dct _ _ => exact h1.elim
  · have hl : ∀ {l : List V} {t : List Sl}, rMs K c wd env σ H l t → (∀ (j : Nat) (ys : List D), t[j]? = some (.own ys) → ∀ xs, s = .own xs → l[j]? ≠ some v) → rMs K c wd (env.set i (some s)) (σ.set i (some v)) H l t := fun {l} => by
      induction l with
      | nil =>
        intro t h _
        cases t with
        | nil => exact trivial
        | cons _ _ => exact h.elim
      | cons u l ih =>
        intro t h hn
        cases t with
        | nil => exact h.elim
        | cons z t =>
          obtain ⟨g1, g2, g3⟩ := h
          refine ⟨?_, ih g2 (fun j ys hj xs e => by simpa using hn (j + 1) ys (by simpa using hj) xs e), g3⟩
          cases z with
          | d x => exact g1
          | obj _ _ _ => exact g1.elim
          | cels _ => exact g1.elim
          | dct _ _ => exact g1.elim
          | own ys =>
            obtain ⟨p, us, rfl, a1, a2, a3, a4, a5, a6, a7⟩ := g1
            refine ⟨p, us, rfl, a1, a2, a3, a4, a5, ⟨fun j zs e => ?_, a6.c.set_d fun cs z => ?_⟩, a7⟩
            rotate_left
            · subst z
              exact h1.elim
            rcases get_set e with ⟨rfl, e, hlt⟩ | ⟨ne, e⟩
            · rw [r.len] at hlt
              rw [List.getElem?_set_self hlt]
              intro q
              have q' : v = V.ref p := by cases q; rfl
              exact hn 0 ys rfl zs (Option.some.inj e) (by rw [q']; rfl)
            · rw [List.getElem?_set_ne ne]
              exact a6.o j zs e
    exact hl h2 fun j ys hj xs e => h3 xs e j ys hj
def sParM2 (i j : Nat) (m : W (List Sl)) : WS := fun pe env => m env (fun ss env' => match ss with
  | [a, b] => pe.nx ((env'.set i (some a)).set j (some b))
  | _ => False) pe.ex
theorem js_parM2 (i j : Nat) {x y : Str} {a b : Expr} {m : W (List Sl)} {px py pt pos : Pos} {kt k2 pt2} (B : Bd X E k) (hm : JM T X E [a, b] m)
    (hi : X.N[i]? = some x := by rfl) (hj : X.N[j]? = some y := by rfl) (hij : i ≠ j := by decide) (hx : X.env.scope.names.lookup x = some .local := by rfl) (hy : X.env.scope.names.lookup y = some .local := by rfl)
    (hw : swappedStores [.Tuple [.Name x px, .Name y py] kt pt] (.Tuple [a, b] k2 pt2) X.env = pure (some [x, y]) := by rfl)
    (hs : swapsWithSole [.Tuple [.Name x px, .Name y py] kt pt] (.Tuple [a, b] k2 pt2) pos.line X.env = pure false := by rfl) :
    JS T X E (.Assign [.Tuple [.Name x px, .Name y py] kt pt] (.Tuple [a, b] k2 pt2) pos) (sParM2 i j m) :=
  psI (ps_par B.calm B.nd hi hj hij hx hy hm hw hs) fun D σ H ⟨c, wd, env, pe, r, h, o⟩ =>
    ⟨c, wd, env, _, _, r, h, o.ex, fun ss env1 h1 vs wd1 H1 le1 r1 rp1 => by
      split at h1
      · rename_i s1 s2
        match vs, rp1 with
        | [u, v], rp1 =>
          obtain ⟨q1, m1⟩ := rMs.set1 r1 i rp1
          obtain ⟨q2, m2⟩ := rMs.set1 q1 j m1
          exact ⟨u, v, rfl, o.nx _ h1 _ wd1 H1 le1 q2⟩
      · exact h1.elim⟩
theorem Top.mono {K : PySem.W.Frag} {wd wd' : Wd} {H : Hp} {v : V} {d : D} (t : Top K wd H v d) (le : Le wd wd') : Top K wd' H v d := by
  rcases t with t | ⟨p, vs, xs, a, b, c, e⟩
  · exact .inl (t.mono le)
  · exact .inr ⟨p, vs, xs, a, b, c, e.mono le⟩
end
end Pd

namespace Pd
open PySem PySem.Spec PyProof.Rows L2 LamX
section
variable {P : Program} {w : World} {K : PySem.W.Frag} {mg : Str → Option Value} {base : Heap} {T : List (Addr × Str)}
def HasD (K : PySem.W.Frag) (mg : Str → Option Value) (x : Str) (st : Stmt) : Prop := ∃ f fd, FunD K x x (defArgs st) (defBody st) (defScope st) [] [] f fd ∧ mg x = some (.ref f)
theorem def_okX {x : Str} {st : Stmt} {N ps : List Str} {k : Nat} {F : Fn} (D : HasD K mg x st) (S : FnScope N ps (defScope st)) (bn : ∀ f fd, FunD K x x (defArgs st) (defBody st) (defScope st) [] [] f fd → Binds K fd ps [])
    (len : ∀ ds Q Ex, F ds Q Ex → ds.length = ps.length)
    (hd : ∀ (cdv : Value) (A : Around) (outer : List Env) (s : Shared) (H : Hp) (E : XK) (f : Addr), Bd (cxOf (L2.CX P w) P w K mg base N x (defScope st) f cdv A outer s H E) E k → Takes (cxOf (L2.CX P w) P w K mg base N x (defScope st) f cdv A outer s H E) (fun cls d _ H => E cls d H) →
      ∃ wb, JSs T (cxOf (L2.CX P w) P w K mg base N x (defScope st) f cdv A outer s H E) E (defBody st) wb ∧ ∀ ds Q Ex, F ds Q Ex → wb (dEnds Q Ex) (startE N ds)) : DefOk P w K mg base T x (k + 1) ps F := by
  obtain ⟨f, fd, D, gm⟩ := D
  exact def_ok D S gm (bn f fd D) len fun cdv A outer s H E B tk => hd cdv A outer s H E f B tk
end
end Pd

namespace Pd
open PySem PySem.Spec PyProof.Rows L2 LamX
theorem reads_ints {h : Heap} : ∀ {ns : List Int} {its : List Value}, Vals (ns.map V.int) its → ReadsAll h its (ns.map PyData.int) []
  | [], _, r => by cases r; exact .nil
  | n :: ns, _, r => by
    cases r with
    | cons a b =>
      obtain ⟨t, rfl⟩ := a
      exact .cons (.int n t) (reads_ints b)
theorem alike_ints (ns : List Int) : PySem.W.AlikeAll (ns.map PyData.int) := by
  refine ⟨fun x hx y hy => ?_, fun x hx => ?_⟩
  · obtain ⟨a, _, rfl⟩ := List.mem_map.mp hx
    obtain ⟨b, _, rfl⟩ := List.mem_map.mp hy
    rfl
  · obtain ⟨a, _, rfl⟩ := List.mem_map.mp hx
    exact fun z => nomatch z
theorem depth_ints : ∀ ns : List Int, PyData.depthAll (ns.map PyData.int) = 0
  | [] => by simp [PyData.depthAll]
  | n :: ns => by simp [PyData.depthAll, PyData.depth, depth_ints ns]
section
variable {X : Cx} {T : List (Addr × Str)} {E : XK} {k : Nat}
def rBest (K : PySem.W.Frag) (f : Int → Int → Int) : List V → Hp → VK → Prop := fun vs H Q => ∃ (a : Addr) (n : Int) (ns : List Int), vs = [V.ref a] ∧ (SqL K H a ((n :: ns).map V.int) ∨ SqT K H a ((n :: ns).map V.int)) ∧ Q (.int (ns.foldl f n)) H
theorem reads_int {h : Heap} {v : Value} {m : Int} {bs : List Addr} (r : Reads h v (.int m) bs) : ∃ t, v = .int m t := by
  cases r
  exact ⟨_, rfl⟩
theorem cr_maxD (hc : X.calm = true) (hu : X.A.units + 200 < cLine) : CallR X (.builtin "max") (rBest X.K max) := by
  intro pins s σ H vs us Q I r h
  obtain ⟨a, n, ns, rfl, hs, q⟩ := h
  rw [Vals.ref1 r]
  have hd : X.A.units + 1 + PyData.depthAll ((n :: ns).map PyData.int) < cLine := by rw [depth_ints]; omega
  rcases hs with hs | hs
  · obtain ⟨its, rv, hl, _⟩ := I.list hs
    refine PySem.W.max_list_data (I.ok.hd hc) hl.isList (reads_ints rv) (alike_ints (n :: ns)) hd fun i v h' tk bs _ rr hk => ?_
    rw [PySem.W.maxD_ints] at rr
    obtain ⟨t, rfl⟩ := reads_int rr
    exact ⟨.int _, H, I.kept hk, ⟨_, rfl⟩, q⟩
  · obtain ⟨its, rv, hl, _⟩ := I.tuple hs
    refine PySem.W.max_tuple_data (I.ok.hd hc) (show s.heap.IsTuple a its.toArray from hl) (reads_ints rv) (alike_ints (n :: ns)) hd fun i v h' tk bs _ rr hk => ?_
    rw [PySem.W.maxD_ints] at rr
    obtain ⟨t, rfl⟩ := reads_int rr
    exact ⟨.int _, H, I.kept hk, ⟨_, rfl⟩, q⟩
theorem cr_minD (hc : X.calm = true) (hu : X.A.units + 200 < cLine) : CallR X (.builtin "min") (rBest X.K min) := by
  intro pins s σ H vs us Q I r h
  obtain ⟨a, n, ns, rfl, hs, q⟩ := h
  rw [Vals.ref1 r]
  have hd : X.A.units + 1 + PyData.depthAll ((n :: ns).map PyData.int) < cLine := by rw [depth_ints]; omega
  rcases hs with hs | hs
  · obtain ⟨its, rv, hl, _⟩ := I.list hs
    refine PySem.W.min_list_data (I.ok.hd hc) hl.isList (reads_ints rv) (alike_ints (n :: ns)) hd fun i v h' tk bs _ rr hk => ?_
    rw [PySem.W.minD_ints] at rr
    obtain ⟨t, rfl⟩ := reads_int rr
    exact ⟨.int _, H, I.kept hk, ⟨_, rfl⟩, q⟩
  · obtain ⟨its, rv, hl, _⟩ := I.tuple hs
    refine PySem.W.min_tuple_data (I.ok.hd hc) (show s.heap.IsTuple a its.toArray from hl) (reads_ints rv) (alike_ints (n :: ns)) hd fun i v h' tk bs _ rr hk => ?_
    rw [PySem.W.minD_ints] at rr
    obtain ⟨t, rfl⟩ := reads_int rr
    exact ⟨.int _, H, I.kept hk, ⟨_, rfl⟩, q⟩
def dBest (f : Int → Int → Int) (x : D) : Option D := match dItems x with
  | some xs => match asInts xs with
    | some (n :: ns) => some (.int (ns.foldl f n))
    | _ => none
  | none => none
abbrev dMaxL := dBest max
abbrev dMinL := dBest min
theorem best_ok {f : Int → Int → Int} {x z : D} (e : dBest f x = some z) {wd : Wd} {H : Hp} {v : V} {Q : VK} (g : Good T wd H) (t : Top X.K wd H v x) (d : Del X.K wd H z Q) : rBest X.K f [v] H Q := by
  unfold dBest at e
  split at e
  · rename_i xs ei
    split at e
    · rename_i n ns ea
      cases e
      have ex := asInts_eq ea
      cases x with
      | lst ys =>
        cases ei
        obtain ⟨p, vs, rfl, h1, h2⟩ := top_lst g t
        rw [ex] at h2
        rw [h2.ints] at h1
        exact ⟨p, n, ns, rfl, .inl (.inl (.inl h1)), d.now (.int _)⟩
      | tup ys =>
        cases ei
        obtain ⟨p, vs, rfl, h1, _, h2⟩ := top_tup g t
        rw [ex] at h2
        rw [h2.ints] at h1
        exact ⟨p, n, ns, rfl, .inr h1, d.now (.int _)⟩
      | _ => cases ei
    · cases e
  · cases e
theorem cb_maxL (B : Bd X E k) : CallB X (.builtin "max") dMaxL := ⟨_, cr_maxD B.calm B.u, fun x z e T wd H v Q g t d => best_ok e g t d⟩
theorem cb_minL (B : Bd X E k) : CallB X (.builtin "min") dMinL := ⟨_, cr_minD B.calm B.u, fun x z e T wd H v Q g t d => best_ok e g t d⟩
section
variable {x : Str} {e o : Expr} {p apos pos : Pos}
end
end
end Pd

namespace Pd
open PySem PySem.Spec PyProof.Rows L2 LamX
abbrev K1 := (D → PEnv → Prop)
def xBin (f : D → D → PEnv → K1 → Prop) (a b : W D) : W D := a.bind fun x => b.bind fun y env Q _ => f x y env Q
def x1 (f : D → PEnv → K1 → Prop) (a : W D) : W D := a.bind fun x env Q _ => f x env Q
def Asks2 (f : D → D → PEnv → K1 → Prop) (g : D → D → Option D) : Prop := ∀ x y env Q, f x y env Q → ∃ z, g x y = some z ∧ Q z env
def Asks1 (f : D → PEnv → K1 → Prop) (g : D → Option D) : Prop := ∀ x env Q, f x env Q → ∃ z, g x = some z ∧ Q z env
def fAdd : D → D → PEnv → K1 → Prop := fun x y env Q => match x, y with
  | .int a, .int b => Q (.int (a + b)) env
  | .tup xs, .tup ys => xs.length + ys.length ≤ 1000000 ∧ Q (.tup (xs ++ ys)) env
  | .lst xs, .lst ys => xs.length + ys.length ≤ 1000000 ∧ Q (.lst (xs ++ ys)) env
  | .str x, .str y => x.length + y.length ≤ 1000000 ∧ Q (.str (x ++ y)) env
  | _, _ => False
def fMul : D → D → PEnv → K1 → Prop := fun x y env Q => match x, y with
  | .int a, .int b => ((a.natAbs < 2 ^ 64 ∨ b.natAbs < 2 ^ 64) ∨ a.natAbs.log2 + b.natAbs.log2 < 1000000) ∧ Q (.int (a * b)) env
  | .tup xs, .int k => (xs ≠ [] ∧ -1000 ≤ k ∧ k ≤ 1000 ∧ xs.length ≤ 1000) ∧ Q (.tup (List.replicate k.toNat xs).flatten) env
  | .lst xs, .int k => (-1000000 ≤ k ∧ k ≤ 1000000 ∧ xs.length * k.toNat ≤ 1000000) ∧ Q (.lst (List.replicate k.toNat xs).flatten) env
  | _, _ => False
def fDiv : D → D → PEnv → K1 → Prop := fun x y env Q => match x, y with
  | .int a, .int b => (0 < b ∧ b.natAbs.log2 < 9000) ∧ Q (.int (a / b)) env
  | _, _ => False
def fMod : D → D → PEnv → K1 → Prop := fun x y env Q => match x, y with
  | .int a, .int b => 0 < b ∧ Q (.int (a % b)) env
  | _, _ => False
def fPow : D → D → PEnv → K1 → Prop := fun x y env Q => match x, y with
  | .int a, .int b => (0 ≤ b ∧ (Builtin.Int.intBits a : Int) * b ≤ 2 ^ 27) ∧ Q (.int (a ^ b.toNat)) env
  | _, _ => False
def fEq : D → D → PEnv → K1 → Prop := fun x y env Q => (plain 60 x && plain 60 y) = true ∧ Q (.bl (eqb x y)) env
def fNe : D → D → PEnv → K1 → Prop := fun x y env Q => (plain 60 x && plain 60 y) = true ∧ Q (.bl (!eqb x y)) env
def fNotIn : D → D → PEnv → K1 → Prop := fun x y env Q => match y with
  | .lst ys => (plain 59 x && ys.all (plain 59)) = true ∧ Q (.bl (!ys.any fun y => eqb y x)) env
  | .tup ys => (plain 59 x && ys.all (plain 59)) = true ∧ Q (.bl (!ys.any fun y => eqb y x)) env
  | _ => False
def fIdx : D → D → PEnv → K1 → Prop := fun x y env Q => ∃ z, dIdx x y = some z ∧ Q z env
def fSum : D → PEnv → K1 → Prop := fun x env Q => ∃ ns : List Int, dItems x = some (ns.map D.int) ∧ Q (.int ns.sum) env
def fAll : D → PEnv → K1 → Prop := fun x env Q => match x with
  | .lst xs => ∃ bs : List Bool, xs = bs.map D.bl ∧ Q (.bl (bs.all id)) env
  | _ => False
def fBest (f : Int → Int → Int) : D → PEnv → K1 → Prop := fun x env Q => ∃ (n : Int) (ns : List Int), dItems x = some ((n :: ns).map D.int) ∧ Q (.int (ns.foldl f n)) env
abbrev fMaxL := fBest max
abbrev fMinL := fBest min
theorem as_add : Asks2 fAdd dAdd := fun x y env Q h => by
  unfold fAdd at h
  split at h
  · exact ⟨_, rfl, h⟩
  · exact ⟨_, if_pos h.1, h.2⟩
  · exact ⟨_, if_pos h.1, h.2⟩
  · exact ⟨_, if_pos h.1, h.2⟩
  · exact h.elim
theorem as_mul : Asks2 fMul dMul := fun x y env Q h => by
  unfold fMul at h
  split at h
  · exact ⟨_, if_pos h.1, h.2⟩
  · exact ⟨_, if_pos h.1, h.2⟩
  · exact ⟨_, if_pos h.1, h.2⟩
  · exact h.elim
theorem as_div : Asks2 fDiv dDiv := fun x y env Q h => by
  unfold fDiv at h
  split at h
  · exact ⟨_, if_pos h.1, h.2⟩
  · exact h.elim
theorem as_mod : Asks2 fMod dMod := fun x y env Q h => by
  unfold fMod at h
  split at h
  · exact ⟨_, if_pos h.1, h.2⟩
  · exact h.elim
theorem as_pow : Asks2 fPow dPow := fun x y env Q h => by
  unfold fPow at h
  split at h
  · exact ⟨_, if_pos h.1, h.2⟩
  · exact h.elim
theorem as_eq : Asks2 fEq dEq := fun x y env Q h => ⟨_, if_pos h.1, h.2⟩
theorem as_ne : Asks2 fNe dNe := fun x y env Q h => ⟨_, if_pos h.1, h.2⟩
theorem as_notIn : Asks2 fNotIn dNotIn := fun x y env Q h => by
  unfold fNotIn at h
  split at h
  · refine ⟨_, ?_, h.2⟩
    show dNot (if _ then _ else _) = _
    rw [if_pos h.1]
    rfl
  · refine ⟨_, ?_, h.2⟩
    show dNot (if _ then _ else _) = _
    rw [if_pos h.1]
    rfl
  · exact h.elim
theorem as_idx : Asks2 fIdx dIdx := fun x y env Q h => h
theorem as_sum : Asks1 fSum dSum := fun x env Q ⟨ns, e, q⟩ => by
  cases x with
  | lst xs =>
    cases e
    exact ⟨_, by show (asInts _).map _ = _; rw [asInts_map]; rfl, q⟩
  | tup xs =>
    cases e
    exact ⟨_, by show (asInts _).map _ = _; rw [asInts_map]; rfl, q⟩
  | _ => cases e
theorem as_best {f : Int → Int → Int} : Asks1 (fBest f) (dBest f) := fun x env Q ⟨n, ns, e, q⟩ => by
  refine ⟨_, ?_, q⟩
  unfold dBest
  rw [e]
  show (match asInts ((n :: ns).map D.int) with
    | some (n :: ns) => some (D.int (ns.foldl f n))
    | _ => none) = _
  rw [asInts_map]
section
variable {X : Cx} {T : List (Addr × Str)} {E : XK} {k : Nat} {e x y : Expr} {a b : W D} {pos : Pos}
theorem lift_x2 {K : PySem.W.Frag} {r : R2} {f : D → D → PEnv → K1 → Prop} {g : D → D → Option D} {a b : W D} {σ : L2.St} {H : Hp} {Q : VK} (hf : Asks2 f g)
    (ho : ∀ (x y z : D), g x y = some z → ∀ (T : List (Addr × Str)) (wd : Wd) (H : Hp) (v u : V) (Q : VK), Good T wd H → Rep K wd v x → Rep K wd u y → Del K wd H z Q → r v u H Q)
    (h : lift K T (rE K) E (xBin f a b) σ H Q) : tOp r (lift K T (rE K) E a) (lift K T (rE K) E b) σ H Q := by
  obtain ⟨c, wd, env, P, Ex, rl, h, xo, k⟩ := h
  refine ⟨c, wd, env, _, Ex, rl, h, xo, fun x env1 h1 v wd1 H1 le1 r1 rp1 => ⟨c, wd1, env1, _, Ex, r1, h1, xo, fun y env2 h2 u wd2 H2 le2 r2 rp2 => ?_⟩⟩
  obtain ⟨z, e, hz⟩ := hf _ _ _ _ h2
  exact ho x y z e T wd2 H2 v u Q r2.good (Rep.mono le2 rp1) rp2 fun w wd3 H3 g3 rp3 => k z env2 hz w wd3 H3 ((le1.trans le2).trans (g3.le r2.good)) (r2.grow g3) rp3
theorem jx_bin {op : Operator} {f : D → D → PEnv → K1 → Prop} {g : D → D → Option D} (hf : Asks2 f g) (ho : OpD X (binaryOp op) g) (ha : JE T X E x a) (hb : JE T X E y b) : JE T X E (.BinOp x op y pos) (xBin f a b) := by
  obtain ⟨r, hr, hq⟩ := ho.ex
  exact peI (pe_op hr ha hb) fun σ H Q h => lift_x2 hf hq h
theorem jx_cmp {op : CmpOp} {f : D → D → PEnv → K1 → Prop} {g : D → D → Option D} (hf : Asks2 f g) (ho : OpD X (compareOp op) g) (ha : JE T X E x a) (hb : JE T X E y b) (hm : behindInMarks op y = false) : JE T X E (.Compare x [op] [y] pos) (xBin f a b) := by
  obtain ⟨r, hr, hq⟩ := ho.ex
  exact peI (pe_cmpR hr ha hb hm) fun σ H Q h => lift_x2 hf hq h
theorem jtx_cmp {op : CmpOp} {f : D → D → PEnv → K1 → Prop} {g : D → D → Option D} (hf : Asks2 f g) (ho : OpD X (compareOp op) g) (ha : JE T X E x a) (hb : JE T X E y b) (hm : behindInMarks op y = false) : JT T X E (.Compare x [op] [y] pos) (wTest (xBin f a b)) := by
  obtain ⟨r, hr, hq⟩ := ho.ex
  refine ptI (pt_cmpR hr ha hb hm) fun σ H Q ⟨c, wd, env, P, Ex, rl, h, xo, k⟩ => lift_x2 hf hq ⟨c, wd, env, _, Ex, rl, h, xo, fun x1 env1 h1 v wd1 H1 le1 r1 rp1 => ?_⟩
  dsimp only at h1
  split at h1
  · cases rp1
    exact ⟨_, rfl, k _ env1 h1 _ wd1 H1 le1 r1 rfl⟩
  · exact h1.elim
theorem as_all : Asks1 fAll dAll := fun x env Q h => by
  unfold fAll at h
  split at h
  · obtain ⟨bs, rfl, q⟩ := h
    exact ⟨_, by show (asBools _).map _ = _; rw [asBools_map]; rfl, q⟩
  · exact h.elim
theorem jx_b1 {f : D → PEnv → K1 → Prop} {g : D → Option D} {id : String} {nm : Str} {p : Pos} (hf : Asks1 f g) (hc : CallB X (.builtin id) g) (hm : X.mg nm = none) (hv : bootBuiltins nm = some (.builtin id)) (ha : JB T X E e a) (hg : Gl X nm := by rfl) (hn : nm ≠ "__name__" := by decide) (hdb : (nm == ("__debug__" : Str)) = false := by decide)
    (hs : starEach [e] X.env = (false, eval e X.env) :: starEach [] X.env := by rfl) (hpl : (backTo pos (starEach [] X.env)).any (·.1) = false := by rfl) : JE T X E (.Call (.Name nm p) [e] [] pos) (x1 f a) := by
  obtain ⟨r, h1, h2⟩ := hc.ex
  refine peI (pe_callB h1 hg hm hv (pa_cons ha pa_nil hs) hn hdb hs hpl) fun σ H Q ⟨c, wd, env, P, Ex, rl, h, xo, k⟩ => ?_
  refine ⟨c, wd, env, _, Ex, rl, h, xo, fun x env1 h1 v wd1 H1 le1 r1 tp => ?_⟩
  obtain ⟨z, e1, h3⟩ := hf _ _ _ h1
  exact h2 x z e1 T wd1 H1 v Q r1.good tp fun w wd2 H2 g2 rp => k z env1 h3 w wd2 H2 (le1.trans (g2.le r1.good)) (r1.grow g2) rp
theorem jx_ix (ha : JE T X E x a) (hb : JE T X E y b) (hs : PlainIx y) : JE T X E (.Subscript x y pos) (xBin fIdx a b) := by
  refine peI (pe_ix (r := fun x y H Q => rIxL X.K x y H Q ∨ rIxT X.K x y H Q) (ix_list.or ix_tup) ha hb hs) fun σ H Q h => lift_x2 as_idx (fun x y z e T wd H v u Q g rx ry d => ?_) h
  cases rx with
  | tup hs rs =>
    cases ry with
    | int i =>
      obtain ⟨w, e1, r1⟩ := atI_reps rs e
      exact .inr ⟨_, _, _, w, rfl, rfl, sub_sqT g hs, e1, d.now r1⟩
    | _ => cases e
  | lst hs rs =>
    cases ry with
    | int i =>
      obtain ⟨w, e1, r1⟩ := atI_reps rs e
      exact .inl ⟨_, _, _, w, rfl, rfl, sub_sqL g hs, e1, d.now r1⟩
    | _ => cases e
  | scr hs =>
    cases ry with
    | int i =>
      obtain ⟨n, e1, e2⟩ := Option.map_eq_some_iff.mp e
      subst e2
      refine .inl ⟨_, _, _, .int n, rfl, rfl, sub_sqS g hs, ?_, d.now (.int n)⟩
      unfold atI at e1 ⊢
      rw [List.length_map]
      obtain ⟨j, q, e3⟩ := Option.bind_eq_some_iff.mp e1
      rw [q]
      show (List.map V.int _)[j]? = some (V.int n)
      rw [List.getElem?_map, e3]
      rfl
    | _ => cases e
  | _ => cases e
end
end Pd

namespace Pd
open PySem PySem.Spec PyProof.Rows L2 LamX
def celsOf : Option Sl → List (Addr × List D)
  | some (.cels cs) => cs
  | _ => []
def celSet (cs : List (Addr × List D)) (p : Addr) (ys : List D) : List (Addr × List D) := cs.map fun q => if q.1 = p then (p, ys) else q
theorem celSet_fst (cs : List (Addr × List D)) (p : Addr) (ys : List D) : (celSet cs p ys).map (·.1) = cs.map (·.1) := by
  unfold celSet
  rw [List.map_map]
  refine List.map_congr_left fun q _ => ?_
  show (if q.1 = p then (p, ys) else q).1 = q.1
  split
  · rename_i h
    exact h.symm
  · rfl
theorem celSet_mem {cs : List (Addr × List D)} {p : Addr} {ys : List D} {q : Addr × List D} (h : q ∈ celSet cs p ys) : (q = (p, ys) ∧ ∃ xs, (p, xs) ∈ cs) ∨ (q.1 ≠ p ∧ q ∈ cs) := by
  unfold celSet at h
  obtain ⟨r, hr, e⟩ := List.mem_map.mp h
  by_cases z : r.1 = p
  · rw [if_pos z] at e
    exact .inl ⟨e.symm, r.2, by rw [← z]; exact hr⟩
  · rw [if_neg z] at e
    subst e
    exact .inr ⟨z, hr⟩
theorem celsOf_mem {env : PEnv} {j : Nat} {q : Addr × List D} (h : q ∈ celsOf (gt env j)) : ∃ cs, env[j]? = some (some (.cels cs)) ∧ gt env j = some (.cels cs) ∧ q ∈ cs := by
  cases e : gt env j with
  | none => rw [e] at h; cases h
  | some s =>
    cases s with
    | cels cs =>
      rw [e] at h
      exact ⟨cs, gt_eq _ _ e, rfl, h⟩
    | _ => rw [e] at h; cases h
section
variable {X : Cx} {T : List (Addr × Str)} {E : XK} {k : Nat}
theorem Rel.newCel {K : PySem.W.Frag} {c : Ctx} {wd : Wd} {env : PEnv} {σ : L2.St} {H : Hp} {j : Nat} {p : Addr} {vs : List V} {xs : List D} (r : Rel K T c wd env σ H) (h1 : H p = some (.lst vs)) (h2 : wd.M p = none) (h3 : p ∉ wd.B) (h4 : Nt c.H p) (h5 : Reps K wd vs xs) (h6 : NoOwn env σ p) (h7 : ∀ q ∈ c.pn, q.1 ≠ p) :
    Rel K T c wd (env.set j (some (.cels (celsOf (gt env j) ++ [(p, xs)])))) σ H := by
  have ownS : ∀ {i : Nat} {ys : List D}, (env.set j (some (.cels (celsOf (gt env j) ++ [(p, xs)]))))[i]? = some (some (.own ys)) → env[i]? = some (some (.own ys)) := fun {i ys} e => by
    rcases get_set e with ⟨rfl, e, _⟩ | ⟨_, e⟩
    · cases e
    · exact e
  have celS : ∀ {i : Nat} {cs : List (Addr × List D)}, (env.set j (some (.cels (celsOf (gt env j) ++ [(p, xs)]))))[i]? = some (some (.cels cs)) → (i = j ∧ cs = celsOf (gt env j) ++ [(p, xs)]) ∨ (i ≠ j ∧ env[i]? = some (some (.cels cs))) := fun {i cs} e => by
    rcases get_set e with ⟨rfl, e, _⟩ | ⟨n, e⟩
    · cases e
      exact .inl ⟨rfl, rfl⟩
    · exact .inr ⟨fun z => n z.symm, e⟩
  refine ⟨r.ord, r.good, r.keep, by rw [List.length_set]; exact r.len, fun i x e => ?_, fun i ys e => r.own i ys (ownS e), fun i l as bs q e1 e2 e3 e4 => r.sep i l as bs q (ownS e1) (ownS e2) e3 e4, fun q hq => ?_, ⟨fun i p0 C fs e => ?_, fun i l p1 p2 C C' fs gs e1 e2 => ?_, fun i cs e q hq => ?_, fun i cs e => ?_, fun i l cs ds e1 e2 n q hq q' hq' => ?_, fun i lk kvs e => ?_, fun i l lk lk' ks ls p1 e1 e2 e3 e4 => ?_⟩⟩
  · rcases get_set e with ⟨rfl, e, _⟩ | ⟨_, e⟩
    · cases e
    · exact r.dat i x e
  · obtain ⟨z1, z2, z3, z4⟩ := r.pin q hq
    refine ⟨z1, z2, z3, fun i ys e => z4.o i ys (ownS e), fun i cs e q' hq' => ?_⟩
    rcases celS e with ⟨rfl, rfl⟩ | ⟨_, e⟩
    · rcases List.mem_append.mp hq' with m | m
      · obtain ⟨cs, e1, _, m⟩ := celsOf_mem m
        exact z4.c i cs e1 q' m
      · rw [List.mem_singleton] at m
        subst m
        exact fun z => h7 q hq z.symm
    · exact z4.c i cs e q' hq'
  · rcases get_set e with ⟨rfl, e, _⟩ | ⟨_, e⟩
    · cases e
    · exact r.ext.obj i p0 C fs e
  · rcases get_set e1 with ⟨rfl, e, _⟩ | ⟨_, e1⟩
    · cases e
    · rcases get_set e2 with ⟨rfl, e, _⟩ | ⟨_, e2⟩
      · cases e
      · exact r.ext.ob1 i l p1 p2 C C' fs gs e1 e2
  · rcases celS e with ⟨rfl, rfl⟩ | ⟨_, e⟩
    · rcases List.mem_append.mp hq with m | m
      · obtain ⟨cs, e1, _, m⟩ := celsOf_mem m
        obtain ⟨z1, z2, z3, z4, z5⟩ := r.ext.cel i cs e1 q m
        exact ⟨z1, z2, z3, z4, fun l ys e => z5 l ys (ownS e)⟩
      · rw [List.mem_singleton] at m
        subst m
        exact ⟨⟨vs, h1, h5⟩, h2, h3, h4, fun l ys e => h6.o l ys (ownS e)⟩
    · obtain ⟨z1, z2, z3, z4, z5⟩ := r.ext.cel i cs e q hq
      exact ⟨z1, z2, z3, z4, fun l ys e => z5 l ys (ownS e)⟩
  · rcases celS e with ⟨rfl, rfl⟩ | ⟨_, e⟩
    · rw [List.map_append]
      refine List.nodup_append.mpr ⟨?_, by simp, fun a ha b hb => ?_⟩
      · cases e : gt env i with
        | none => exact List.nodup_nil
        | some s =>
          cases s with
          | cels cs => exact r.ext.cnd i cs (gt_eq _ _ e)
          | _ => exact List.nodup_nil
      · obtain ⟨q, hq, rfl⟩ := List.mem_map.mp ha
        obtain ⟨cs, e1, _, m⟩ := celsOf_mem hq
        have : b = p := by simpa using hb
        rw [this]
        exact h6.c i cs e1 q m
    · exact r.ext.cnd i cs e
  · rcases celS e1 with ⟨rfl, rfl⟩ | ⟨n1, f1⟩
    · rcases celS e2 with ⟨rfl, rfl⟩ | ⟨n2, e2⟩
      · exact absurd rfl n
      · rcases List.mem_append.mp hq with m | m
        · obtain ⟨cs, e3, _, m⟩ := celsOf_mem m
          exact r.ext.ce1 i l cs ds e3 e2 n q m q' hq'
        · rw [List.mem_singleton] at m
          subst m
          exact fun z => h6.c l ds e2 q' hq' z.symm
    · rcases celS e2 with ⟨rfl, rfl⟩ | ⟨n2, e2⟩
      · rcases List.mem_append.mp hq' with m | m
        · obtain ⟨cs', e3, _, m⟩ := celsOf_mem m
          exact r.ext.ce1 i l cs cs' f1 e3 n q hq q' m
        · rw [List.mem_singleton] at m
          subst m
          exact h6.c i cs f1 q hq
      · exact r.ext.ce1 i l cs ds f1 e2 n q hq q' hq'
  · rcases get_set e with ⟨rfl, e, _⟩ | ⟨_, e⟩
    · cases e
    · exact r.ext.dct i lk kvs e
  · rcases get_set e1 with ⟨rfl, e, _⟩ | ⟨_, e1⟩
    · cases e
    · rcases get_set e2 with ⟨rfl, e, _⟩ | ⟨_, e2⟩
      · cases e
      · exact r.ext.dc1 i l lk lk' ks ls p1 e1 e2 e3 e4
def wCell (j : Nat) (w : W (List D)) : W D := fun env Q ex => w env (fun xs env' => ∀ p, p ∉ (celsOf (gt env' j)).map (·.1) → Q (.raw (.ref p)) (env'.set j (some (.cels (celsOf (gt env' j) ++ [(p, xs)]))))) ex
theorem je_cell (j : Nat) {e : Expr} {w : W (List D)} (h : JF T X E e w) : JE T X E e (wCell j w) :=
  peI h fun σ H Q ⟨c, wd, env, P, Ex, r, h, xo, k⟩ => ⟨c, wd, env, _, Ex, r, h, xo, fun xs env' p b wd' H' le r' rp => by
    obtain ⟨q, vs, rfl, h1, h2, h3, h4, h5, h6, h7⟩ := rp
    refine k _ _ (p q fun hm => ?_) (.ref q) wd' H' le (r'.newCel h1 h2 h3 h4 h5 h6 h7) (.raw _)
    obtain ⟨a, ha, ea⟩ := List.mem_map.mp hm
    obtain ⟨cs, e1, _, m⟩ := celsOf_mem ha
    exact h6.c j cs e1 a m ea⟩
def celIs (env : PEnv) (j : Nat) (x : D) (P : Addr → List D → Prop) : Prop := match x with
  | .raw (.ref p) => ∃ xs, (p, xs) ∈ celsOf (gt env j) ∧ P p xs
  | _ => False
theorem celIs_inv {env : PEnv} {j : Nat} {x : D} {P : Addr → List D → Prop} (h : celIs env j x P) : ∃ p xs, x = .raw (.ref p) ∧ (p, xs) ∈ celsOf (gt env j) ∧ P p xs := by
  unfold celIs at h
  split at h
  · obtain ⟨xs, h1, h2⟩ := h
    exact ⟨_, xs, rfl, h1, h2⟩
  · exact h.elim
theorem Rel.celAt {K : PySem.W.Frag} {c : Ctx} {wd : Wd} {env : PEnv} {σ : L2.St} {H : Hp} {j : Nat} {p : Addr} {xs : List D} (r : Rel K T c wd env σ H) (h : (p, xs) ∈ celsOf (gt env j)) : ∃ vs, H p = some (.lst vs) ∧ Reps K wd vs xs := by
  obtain ⟨cs, e1, _, m⟩ := celsOf_mem h
  exact (r.ext.cel j cs e1 _ m).1
def wCelB (j : Nat) (w : W D) : W D := fun env Q ex => w env (fun x env' => celIs env' j x fun _ xs => Q (.lst xs) env') ex
theorem jb_cel (j : Nat) {e : Expr} {w : W D} (h : JE T X E e w) : JB T X E e (wCelB j w) :=
  peI h fun σ H Q ⟨c, wd, env, P, Ex, r, h, xo, k⟩ => ⟨c, wd, env, _, Ex, r, h, xo, fun x env' hc v wd' H' le r' rp => by
    obtain ⟨p, xs, rfl, m, hq⟩ := celIs_inv hc
    cases rp
    obtain ⟨vs, h1, h2⟩ := r'.celAt m
    exact k _ _ hq (.ref p) wd' H' le r' (.inr ⟨p, vs, xs, rfl, rfl, h1, h2⟩)⟩
theorem Rel.mutCel {K : PySem.W.Frag} {c : Ctx} {wd : Wd} {env : PEnv} {σ : L2.St} {H : Hp} {j : Nat} {p : Addr} {xs ys : List D} {us : List V} (r : Rel K T c wd env σ H) (hm : (p, xs) ∈ celsOf (gt env j)) (hr : Reps K wd us ys) (hz : us.length ≤ sizeLine) :
    Rel K T c wd (env.set j (some (.cels (celSet (celsOf (gt env j)) p ys)))) σ (upd H p (.lst us)) := by
  obtain ⟨cs, ej, eg, m⟩ := celsOf_mem hm
  have eo : celsOf (gt env j) = cs := by rw [eg]; rfl
  rw [eo]
  obtain ⟨⟨vs, h1, h2⟩, h3, h4, h5, h6⟩ := r.ext.cel j cs ej _ m
  have h1 : H p = some (.lst vs) := h1
  have h3 : wd.M p = none := h3
  have h4 : p ∉ wd.B := h4
  have h5 : Nt c.H p := h5
  have h6 : ∀ (i : Nat) (ys : List D), env[i]? = some (some (Sl.own ys)) → σ[i]? ≠ some (some (V.ref p)) := h6
  have ownS : ∀ {i : Nat} {zs : List D}, (env.set j (some (.cels (celSet cs p ys))))[i]? = some (some (.own zs)) → env[i]? = some (some (.own zs)) := fun {i zs} e => by
    rcases get_set e with ⟨rfl, e, _⟩ | ⟨_, e⟩
    · cases e
    · exact e
  have celS : ∀ {i : Nat} {ds : List (Addr × List D)}, (env.set j (some (.cels (celSet cs p ys))))[i]? = some (some (.cels ds)) → (i = j ∧ ds = celSet cs p ys) ∨ (i ≠ j ∧ env[i]? = some (some (.cels ds))) := fun {i ds} e => by
    rcases get_set e with ⟨rfl, e, _⟩ | ⟨n, e⟩
    · cases e
      exact .inl ⟨rfl, rfl⟩
    · exact .inr ⟨fun z => n z.symm, e⟩
  have memF : ∀ {q : Addr × List D}, q ∈ celSet cs p ys → ∃ q', q' ∈ cs ∧ q'.1 = q.1 := fun {q} h => by
    rcases celSet_mem h with ⟨rfl, xs', m'⟩ | ⟨_, m'⟩
    · exact ⟨_, m', rfl⟩
    · exact ⟨q, m', rfl⟩
  refine ⟨r.ord, ⟨fun a o q => ?_, r.good.ntb, fun b hb => ?_, fun q hq => ?_, siz_upd r.good.siz hz⟩, ⟨fun a o q n t => ?_, fun a q => ?_⟩, by rw [List.length_set]; exact r.len, fun i x e => ?_, fun i zs e => ?_, fun i l as bs q e1 e2 e3 e4 => r.sep i l as bs q (ownS e1) (ownS e2) e3 e4, fun q hq => ?_, ⟨fun i p0 C fs e => ?_, fun i l p1 p2 C C' fs gs e1 e2 => ?_, fun i ds e q hq => ?_, fun i ds e => ?_, fun i l ds es e1 e2 n q hq q' hq' => ?_, fun i lk kvs e => ?_, fun i l lk lk' ks ls p1 e1 e2 e3 e4 => ?_⟩⟩
  · rw [upd_ne (fun z => by rw [z, h3] at q; cases q)]
    exact r.good.sub a o q
  · obtain ⟨z1, g, s, c', z2, z3⟩ := r.good.box b hb
    exact ⟨z1, g, s, c', by rw [upd_ne (show b ≠ p from fun z => h4 (z ▸ hb))]; exact z2, z3⟩
  · obtain ⟨ps, z1, z2, z3⟩ := r.good.tab q hq
    refine ⟨ps, ?_, z2, fun pos cv hc => ?_⟩
    · rw [upd_ne (fun z => by rw [z, h1] at z1; cases z1)]
      exact z1
    · obtain ⟨a, y1, y2⟩ := z3 pos cv hc
      refine ⟨a, y1, ?_⟩
      rw [upd_ne (fun z => by rw [z, h1] at y2; cases y2)]
      exact y2
  · rw [upd_ne (show a ≠ p from fun z => h5.no (by rw [← z]; exact q) t)]
    exact r.keep.st a o q n t
  · by_cases ha : a = p
    · subst ha
      exact h5
    · exact r.keep.dm a (q.upd ha)
  · rcases get_set e with ⟨rfl, e, _⟩ | ⟨_, e⟩
    · cases e
    · exact r.dat i x e
  · obtain ⟨a, ws, z1, z2, z3⟩ := r.own i zs (ownS e)
    exact ⟨a, ws, z1, by rw [upd_ne (show a ≠ p from fun z => h6 i zs (ownS e) (by rw [← z]; exact z1))]; exact z2, z3⟩
  · obtain ⟨z1, z2, z3, z4⟩ := r.pin q hq
    refine ⟨by rw [upd_ne (show q.1 ≠ p from fun z => z4.c j cs ej _ m z.symm)]; exact z1, z2, z3, fun i zs e => z4.o i zs (ownS e), fun i ds e q' hq' => ?_⟩
    rcases celS e with ⟨rfl, rfl⟩ | ⟨_, e⟩
    · obtain ⟨q2, m2, e2⟩ := memF hq'
      rw [← e2]
      exact z4.c i cs ej q2 m2
    · exact z4.c i ds e q' hq'
  · rcases get_set e with ⟨rfl, e, _⟩ | ⟨_, e⟩
    · cases e
    · obtain ⟨dx, ws, z1, z2, z3⟩ := r.ext.obj i p0 C fs e
      exact ⟨dx, ws, z1, by rw [upd_ne (fun z => by rw [z, h1] at z2; cases z2)]; exact z2, z3⟩
  · rcases get_set e1 with ⟨rfl, e, _⟩ | ⟨_, e1⟩
    · cases e
    · rcases get_set e2 with ⟨rfl, e, _⟩ | ⟨_, e2⟩
      · cases e
      · exact r.ext.ob1 i l p1 p2 C C' fs gs e1 e2
  · rcases celS e with ⟨rfl, rfl⟩ | ⟨ni, e⟩
    · rcases celSet_mem hq with ⟨rfl, _⟩ | ⟨ne, m'⟩
      · exact ⟨⟨us, upd_same, hr⟩, h3, h4, h5, fun l zs e => h6 l zs (ownS e)⟩
      · obtain ⟨⟨ws, z1, z2⟩, z3, z4, z5, z6⟩ := r.ext.cel i cs ej q m'
        exact ⟨⟨ws, by rw [upd_ne ne]; exact z1, z2⟩, z3, z4, z5, fun l zs e => z6 l zs (ownS e)⟩
    · obtain ⟨⟨ws, z1, z2⟩, z3, z4, z5, z6⟩ := r.ext.cel i ds e q hq
      exact ⟨⟨ws, by rw [upd_ne (r.ext.ce1 i j ds cs e ej ni q hq _ m)]; exact z1, z2⟩, z3, z4, z5, fun l zs e => z6 l zs (ownS e)⟩
  · rcases celS e with ⟨rfl, rfl⟩ | ⟨_, e⟩
    · rw [celSet_fst]
      exact r.ext.cnd i cs ej
    · exact r.ext.cnd i ds e
  · rcases celS e1 with ⟨rfl, rfl⟩ | ⟨n1, f1⟩
    · rcases celS e2 with ⟨rfl, rfl⟩ | ⟨n2, e2⟩
      · exact absurd rfl n
      · obtain ⟨q2, m2, e3⟩ := memF hq
        rw [← e3]
        exact r.ext.ce1 i l cs es ej e2 n q2 m2 q' hq'
    · rcases celS e2 with ⟨rfl, rfl⟩ | ⟨n2, e2⟩
      · obtain ⟨q2, m2, e3⟩ := memF hq'
        rw [← e3]
        exact r.ext.ce1 i l ds cs f1 ej n q hq q2 m2
      · exact r.ext.ce1 i l ds es f1 e2 n q hq q' hq'
  · rcases get_set e with ⟨rfl, e, _⟩ | ⟨_, e⟩
    · cases e
    · obtain ⟨p0, ws, z1, z2, z3⟩ := r.ext.dct i lk kvs e
      exact ⟨p0, ws, z1, by rw [upd_ne (fun z => by rw [z, h1] at z2; exact lk_lst z2)]; exact z2, z3⟩
  · rcases get_set e1 with ⟨rfl, e, _⟩ | ⟨_, e1⟩
    · cases e
    · rcases get_set e2 with ⟨rfl, e, _⟩ | ⟨_, e2⟩
      · cases e
      · exact r.ext.dc1 i l lk lk' ks ls p1 e1 e2 e3 e4
section
variable {o e : Expr} {apos pos : Pos}
end
end
end Pd

namespace Pd
open PySem PySem.Spec PyProof.Rows L2 LamX
section
variable {K : PySem.W.Frag} {T : List (Addr × Str)} {c : Ctx} {wd wd' : Wd} {env : PEnv} {σ : L2.St} {H H' : Hp}
theorem Good.nb (g : Good T wd H) {p : Addr} (h : H p = none) : p ∉ wd.B := fun z => by
  obtain ⟨_, _, _, _, e, _⟩ := g.box p z
  rw [h] at e
  cases e
theorem Good.new (g : Good T wd H) {p : Addr} {o : HO} (h : H p = none) (z : Sized o) : Good T wd (upd H p o) := by
  refine ⟨fun a u e => ?_, g.ntb, fun b hb => ?_, g.tab.ext fun b u e => ?_, siz_upd g.siz z⟩
  · have := g.sub a u e
    rw [upd_ne (ne_of_none this h)]
    exact this
  · obtain ⟨h1, gg, s, c', h2, h3⟩ := g.box b hb
    exact ⟨h1, gg, s, c', by rw [upd_ne (ne_of_none h2 h)]; exact h2, h3⟩
  · rw [upd_ne (ne_of_none e h)]
    exact e
theorem Good.put (g : Good T wd H) {p : Addr} {o : HO} (h : H p = some o) (t : noTb o) (z : Sized o) (hb : p ∉ wd.B) : Good T (wd.add p o) H := by
  have uq : ∀ {a : Addr} {u : HO}, (wd.add p o).M a = some u → (a = p ∧ u = o) ∨ wd.M a = some u := fun {a u} e => by
    by_cases ha : a = p
    · subst ha
      have e' : upd wd.M a o a = some u := e
      rw [upd_same] at e'
      cases e'
      exact .inl ⟨rfl, rfl⟩
    · have e' : upd wd.M p o a = some u := e
      rw [upd_ne ha] at e'
      exact .inr e'
  refine ⟨fun a u e => ?_, fun a u e => ?_, fun b hb' => ?_, g.tab, g.siz⟩
  · rcases uq e with ⟨rfl, rfl⟩ | e
    · exact h
    · exact g.sub a u e
  · rcases uq e with ⟨rfl, rfl⟩ | e
    · exact ⟨t, z⟩
    · exact g.ntb a u e
  · obtain ⟨z1, z2⟩ := g.box b hb'
    refine ⟨?_, z2⟩
    show upd wd.M p o b = none
    rw [upd_ne (show b ≠ p from fun z => hb (z ▸ hb'))]
    exact z1
theorem Ord.put (o : Ord wd wd' H) {p : Addr} {u : HO} (h : Nt H p) (hm : wd'.M p = none) : Ord wd (wd'.add p u) H := by
  refine ⟨o.le.trans (Le.add hm), fun a v e => ?_, o.fb⟩
  by_cases ha : a = p
  · subst ha
    exact .inr (.inl h)
  · have e' : upd wd'.M p u a = some v := e
    rw [upd_ne ha] at e'
    exact o.fm a v e'
end
section
variable {X : Cx} {T : List (Addr × Str)} {E : XK} {k : Nat}
end
abbrev IFn := List D → (List (Str × D) → Prop) → (Xc → Prop) → Prop
def specI (K : PySem.W.Frag) (T : List (Addr × Str)) (C : Str) (F : IFn) : Sp := fun vs H Q E => ∃ (x dx : Addr) (us : List V) (c : Ctx) (wd : Wd) (ds : List D) (P : List (Str × D) → Prop) (Ex : Xc → Prop),
  vs = .ref x :: us ∧ c.pn = [] ∧ Ord c.wd wd c.H ∧ Good T wd H ∧ Keep c.wd c.H H ∧ H x = some (.ins (He.ga K C) dx []) ∧ wd.M x = none ∧ Nt c.H x ∧ Reps K wd us ds ∧ F ds P Ex ∧ XOk K T c E Ex ∧
  ∀ fs, P fs → ∀ (ws : List (Str × V)) (dx' : Addr) (wd' : Wd) (H' : Hp), Ord c.wd wd' c.H → Good T wd' H' → Keep c.wd c.H H' → H' x = some (.ins (He.ga K C) dx' ws) → wd'.M x = none → ws.map (·.1) = fs.map (·.1) → Reps K wd' (ws.map (·.2)) (fs.map (·.2)) → Q .non H'
section
variable {P : Program} {w : World} {K : PySem.W.Frag} {mg : Str → Option Value} {base : Heap} {T : List (Addr × Str)}
structure InitOk (P : Program) (w : World) (K : PySem.W.Frag) (mg : Str → Option Value) (base : Heap) (T : List (Addr × Str)) (C : Str) (k : Nat) (F : IFn) : Prop where
  ex : ∃ f, Mk K (He.ga K C) f ∧ mg C = some (.ref (He.ga K C)) ∧ FnR P w K mg base (L2.CX P w) k f (specI K T C F)
theorem InitOk.up {C : Str} {j k : Nat} {F : IFn} (d : InitOk P w K mg base T C j F) (h : j ≤ k) : InitOk P w K mg base T C k F := by
  obtain ⟨f, a, b, e⟩ := d.ex
  exact ⟨f, a, b, e.mono h⟩
end
section
variable {X : Cx} {T : List (Addr × Str)} {E : XK} {k : Nat}
end
section
variable {P : Program} {w : World} {K : PySem.W.Frag} {mg : Str → Option Value} {base : Heap} {T : List (Addr × Str)}
end
end Pd

namespace Pd
open PySem PySem.Spec PyProof.Rows L2 LamX
section
variable {X : Cx} {T : List (Addr × Str)} {E : XK} {k : Nat} {tg tg1 : Expr}
end
end Pd

namespace Pd
open PySem PySem.Spec PyProof.Rows L2 LamX
section
variable {X : Cx} {out : WX} {D : Ends} {pins : List (Addr × Obj)} {a : Addr} {B : Heap} {sI s' : Shared} {τ : L2.St} {G : Hp} {cls : Value} {d : Option Addr}
end
end Pd

namespace Pd
open PySem PySem.Spec PyProof.Rows L2 LamX
abbrev SizAll (H : Hp) : Prop := ∀ a o, H a = some o → SizedH o
theorem hok_siz {P : Program} {w : World} {H : Hp} {h : Heap} (x : HOk P w H h) : SizAll H := fun a o e => by
  have z := x a o e
  cases o with
  | lst xs => exact z.1
  | tup xs => exact z.1
  | _ => exact trivial
structure ExcC (K : PySem.W.Frag) (mg : Str → Option Value) (C : Str) : Prop where
  q : PySem.W.excIn K (He.ga K C) He.veBase "ValueError.__new__" = true
  k : PySem.W.keepIn K (.ref (He.ga K C)) = true
  b : PySem.W.subIn K (.ref (He.ga K C)) (.type "BaseException") = some true
  t : PySem.W.typeIn K (.ref (He.ga K C)) = some (.type "type")
  g : mg C = some (.ref (He.ga K C))
def sRaise (C : Str) : WS := fun pe _ => pe.ex ⟨C, []⟩
section
variable {X : Cx} {T : List (Addr × Str)} {E : XK} {k : Nat}
theorem js_raise {C m : Str} {j : Nat} {p p2 pos pos' : Pos} (B : Bd X E k) (tk : Takes X (fun cls d _ H => E cls d H)) (e : ExcC X.K X.mg C) (hg : Gl X C := by rfl) (hd : (C == ("__debug__" : Str)) = false := by decide) :
    JS T X E (.Raise (some (.Call (.Name C p) [.Constant (.str m) j p2] [] pos)) none pos') (sRaise C) :=
  psI (ps_raise B.calm tk (pmk_own PySem.F.excBase_ValueError e.q e.g e.k (raises_own e.b e.t) hg hd)) fun D σ H ⟨c, wd, env, pe, r, h, o⟩ => o.ex _ h _ _ wd H r.ord r.good r.keep ⟨rfl, .inl ⟨rfl, rfl⟩⟩
end
section
variable {K : PySem.W.Frag} {T : List (Addr × Str)} {c : Ctx} {wd : Wd} {env : PEnv} {σ : L2.St} {H H1 : Hp}
theorem Good.extN (g : Good T wd H) (e : ExtN H H1) (t : Tabs T H1) (z : SizAll H1) : Good T wd H1 := by
  refine ⟨fun a o h => e a o (g.sub a o h) (g.ntb a o h).1, g.ntb, fun b hb => ?_, t, z⟩
  obtain ⟨h1, x, s, cc, h2, h3⟩ := g.box b hb
  exact ⟨h1, x, s, cc, e b _ h2 noTb_lst, h3⟩
theorem Keep.extN (e : ExtN H H1) : Keep wd H H1 := ⟨fun a o h _ t => e a o h t, fun a n o h t => n o (e a o h t) t⟩
end
structure Hd where
  x : Str
  s : Str
  f : Option Str
section
variable {X : Cx} {T : List (Addr × Str)} {E : XK} {k : Nat}
end
end Pd

namespace Pd
open PySem PySem.Spec PyProof.Rows L2 LamX
mutual
def toR : D → PyData
  | .bl b => .bool b
  | .int i => .int i
  | .str x => .str x
  | .tup xs => .tuple (toRs xs)
  | .lst xs => .list (toRs xs)
  | .dic _ => .dict []
  | _ => .none
def toRs : List D → List PyData
  | [] => []
  | x :: xs => toR x :: toRs xs
end
mutual
def wt : D → Nat
  | .int _ => 401
  | .str x => x.cps.size
  | .tup xs => wts xs
  | .lst xs => wts xs
  | _ => 0
def wts : List D → Nat
  | [] => 0
  | x :: xs => wt x + 1 + wts xs
end
def shown (d : D) : Str := (toR d).shown
section
variable {X : Cx} {pins : List (Addr × Obj)} {σ : L2.St} {T : List (Addr × Str)} {wd : Wd} {H : Hp} {s : Shared}
structure Shw (X : Cx) (s : Shared) (u : Value) (d : PyData) : Prop where
  ex : ∃ bs as, Reads s.heap u d as ∧ ReadAtMost s.heap d.depth bs ∧ ReprK X.prog X.w bs s.heap d.depth u d.shown
structure Shws (X : Cx) (s : Shared) (us : List Value) (ds : List PyData) : Prop where
  ex : ∃ bs as, ReadsAll s.heap us ds as ∧ ReadAtMost s.heap (PyData.depthAll ds) bs ∧ ReprAllK X.prog X.w bs s.heap (PyData.depthAll ds) us (PyData.shownAll ds)
theorem Shws.nil : Shws X s [] [] := ⟨[], [], ReadsAll.nil, (fun _ h => nomatch h), ReprAllK.nil⟩
theorem Shws.cons {u : Value} {us : List Value} {d : PyData} {ds : List PyData} (a : Shw X s u d) (b : Shws X s us ds) : Shws X s (u :: us) (d :: ds) := by
  obtain ⟨b1, a1, r1, m1, k1⟩ := a.ex
  obtain ⟨b2, a2, r2, m2, k2⟩ := b.ex
  have l1 : d.depth ≤ PyData.depthAll (d :: ds) := by simp only [PyData.depthAll]; omega
  have l2 : PyData.depthAll ds ≤ PyData.depthAll (d :: ds) := by simp only [PyData.depthAll]; omega
  refine ⟨b1 ++ b2, a1 ++ a2, .cons r1 r2, (m1.mono l1).append (m2.mono l2), ?_⟩
  exact .cons ((k1.more fun b hb => List.mem_append_left _ hb).level_le l1) (k2.more_le (fun b hb => List.mem_append_right _ hb) l2)
theorem Shws.top {us : List Value} {ds : List PyData} (b : Shws X s us ds) {a : Addr} {o : Obj} {n : Nat} (h1 : s.heap.get? a = some o) (h2 : o.cls = .type "list" ∧ o.data = .seq us.toArray n ∨ o.cls = .type "tuple" ∧ o.data = .seq us.toArray n) :
    ∃ bs, a ∉ bs ∧ ReprAllK X.prog X.w bs s.heap (PyData.depthAll ds) us (PyData.shownAll ds) ∧ ReadAtMost s.heap (PyData.depthAll ds) bs := by
  obtain ⟨bs, as, r, m, k⟩ := b.ex
  have key : ∀ {d : PyData}, Reads s.heap (.ref a) d (match d with | .list _ => a :: as | _ => as) → PyData.depthAll ds < d.depth → a ∉ bs := fun {d} r hd => not_mem_of_deeper r hd m
  refine ⟨bs, ?_, k, m⟩
  rcases h2 with ⟨hc, hd⟩ | ⟨hc, hd⟩
  · exact key (d := .list ds) (.list h1 hc hd (by simpa using r)) (by simp only [PyData.depth]; omega)
  · exact key (d := .tuple ds) (.tuple h1 hc hd (by simpa using r)) (by simp only [PyData.depth]; omega)
theorem Shws.list {us : List Value} {ds : List PyData} (b : Shws X s us ds) {a : Addr} {o : Obj} {n : Nat} (h1 : s.heap.get? a = some o) (hc : o.cls = .type "list") (hd : o.data = .seq us.toArray n) : Shw X s (.ref a) (.list ds) := by
  obtain ⟨bs, na, k, m⟩ := b.top h1 (.inl ⟨hc, hd⟩)
  obtain ⟨_, as, r, _, _⟩ := b.ex
  have rd : Reads s.heap (.ref a) (.list ds) (a :: as) := .list h1 hc hd (by simpa using r)
  refine ⟨a :: bs, _, rd, ReadAtMost.cons rd (by simp only [PyData.depth]; omega) m, ?_⟩
  simp only [PyData.depth, PyData.shown]
  cases us with
  | nil =>
    cases r
    simp only [PyData.shownAll, listText_nil]
    exact ReprK.listEmpty h1 hc hd
  | cons x l => exact ReprK.list h1 hc hd na (by simpa using k.length_eq) (fun i y e => k.item i y (by simpa using e))
theorem Shws.tuple {us : List Value} {ds : List PyData} (b : Shws X s us ds) {a : Addr} {o : Obj} {n : Nat} (h1 : s.heap.get? a = some o) (hc : o.cls = .type "tuple") (hd : o.data = .seq us.toArray n) : Shw X s (.ref a) (.tuple ds) := by
  obtain ⟨bs, na, k, m⟩ := b.top h1 (.inr ⟨hc, hd⟩)
  obtain ⟨_, as, r, _, _⟩ := b.ex
  have rd : Reads s.heap (.ref a) (.tuple ds) as := .tuple h1 hc hd (by simpa using r)
  refine ⟨a :: bs, _, rd, ReadAtMost.cons rd (by simp only [PyData.depth]; omega) m, ?_⟩
  simp only [PyData.depth, PyData.shown]
  exact ReprK.tuple h1 hc hd na (by simpa using k)
end
structure FnG (P : Program) (w : World) (K : PySem.W.Frag) (mg : Str → Option Value) (base : Heap) (k : Nat) (f : Addr) (fd : FuncData) (ps : List Str) (sp : Sp) : Prop where
  len : ∀ vs H Q E, sp vs H Q E → vs.length = ps.length
  go : ∀ (A : Around) (outer : List Env) (s : Shared) (H : Hp) (args : Args) (us : List Value) (vs : List V) (Q : VK) (E : XK), A.guards = some [] → Room k A → Env0 P w K mg base A outer s H → BindsTo s fd args (ps.zip us) → Vals vs us →
    sp vs H Q E → codeAny (model P w) A (.call (.ref f) args) (CR (L2.CX P w) outer P w H s Q E) s
theorem FnG.of {P : Program} {w : World} {K : PySem.W.Frag} {mg : Str → Option Value} {base : Heap} {k : Nat} {f : Addr} {fd : FuncData} {ps : List Str} {sp : Sp} (F : FnOk P w K mg base (L2.CX P w) k f fd ps sp) : FnG P w K mg base k f fd ps sp :=
  ⟨F.len, fun A outer s H args us vs Q E _ hr e0 hb r h => F.run A outer s H args us vs Q E hr e0 hb r h⟩
structure DefG (P : Program) (w : World) (K : PySem.W.Frag) (mg : Str → Option Value) (base : Heap) (T : List (Addr × Str)) (x : Str) (k : Nat) (ps : List Str) (F : Fn) : Prop where
  ex : ∃ (f : Addr) (fd : FuncData), mg x = some (.ref f) ∧ PySem.W.keepIn K (.ref f) = true ∧ Binds K fd ps [] ∧ FnG P w K mg base k f fd ps (spec K T F) ∧ ∃ oc od osl, K.lookup f = some ⟨oc, od, .func fd, osl⟩
section
variable {X : Cx} {T : List (Addr × Str)} {E : XK} {k : Nat}
end
end Pd

namespace Pd
open PySem PySem.Spec PyProof.Rows L2 LamX PySem.W
section
variable {prog : Program} {w : World} {A : Around} {R : Result → Shared → Prop} {hp : Heap} {g : Array GenState} {d : Drawn} {t : Nat} {os : OsState} {K : Frag} {C : Addr} {B i newId : String} {bmB : List Value} {f : Str}
end
section
variable {X : Cx} {T : List (Addr × Str)} {E : XK} {k : Nat} {C : Addr} {B i newId : String} {bmB : List Value} {f : Str}
end
end Pd

namespace Pd
open PySem PySem.Spec PyProof.Rows L2 LamX
theorem hasD_of {fa : List He.Fa} {fn : List He.DefD} {K : PySem.W.Frag} {h : Heap} {mg : Str → Option Value} (X : K.In h) (G : h.Ns mainGlobals mg) (c : He.SaysD fa fn K) {x : Str} {st : Stmt} (i j : Nat)
    (hi : fa[i]? = some (.glo x)) (hj : fn[j]? = some ⟨(x, none), x, x, defArgs st, defBody st, defScope st, [], []⟩) : HasD K mg x st := by
  obtain ⟨fd, F⟩ := c.def_ j hj
  exact ⟨He.ga K x, fd, F, He.glo_ok X G (c.fact i hi)⟩
theorem cx_no {P : Program} {w : World} {outer : List Env} {H : Hp} {s : Shared} {e : Value} {s' : Shared} (h : L2.CX P w outer H s (fun _ _ _ => False) e s') : False := by
  obtain ⟨_, _, _, _, _, _, _, _, _, _, _, _, z⟩ := h
  exact z
end Pd

namespace Pd
open PySem PySem.Spec PyProof.Rows L2 LamX
section
variable {P : Program} {w : World} {K : PySem.W.Frag} {mg mb : Str → Option Value} {k : Nat} {fa a : Addr} {cs : List (Addr × Addr)} {fd : FuncData} {x : Str} {sp : Sp} {s : Shared} {us : List Value}
structure Top0 (K : PySem.W.Frag) (mg mb : Str → Option Value) (cs : List (Addr × Addr)) (s : Shared) : Prop where
  kin : K.In s.heap
  glo : s.heap.Ns mainGlobals mg
  blt : s.heap.Ns builtinsNs mb
  bbb : ∀ y : Str, y ≠ "__name__" → mb y = bootBuiltins y
  lim : s.heap.NoLimit
  gen : s.gens = #[]
  tab : ∀ p ∈ cs, s.heap.get? p.2 = some { cls := .none, data := .fields #[] }
  out : ∀ p ∈ cs, K.lookup p.2 = none
  hdr : ∀ p ∈ cs, PySem.W.CodeHd s.heap p.1 p.2
  bmn : ∃ (bm : Addr) (ob : Obj), mg "__builtins__" = some (.ref bm) ∧ bm ≠ builtinsNs ∧ s.heap.get? bm = some ob ∧ ob.cls = .type "module" ∧ ob.dict = some builtinsNs ∧ ob.data = .plain
structure Start0 (K : PySem.W.Frag) (cs : List (Addr × Addr)) (a : Addr) (H : Hp) : Prop where
  t : ∀ p ∈ cs, H p.2 = some (.tbl #[])
  o : ∀ b u, H b = some u → (b ∈ cs.map (·.2) ∧ u = .tbl #[]) ∨ (b = a ∧ K.lookup a = none ∧ ∃ ob xs, u = .frz ob (.lst xs))
theorem left_behind {H G : Hp} {h' : Heap} (Z : Top0 K mg mb cs s) (S : Start0 K cs a H) (hok : HOk P w H s.heap) (un : Un (frs []) [] H G s.heap h') (ok : HOk P w G h') : OldK s.heap h' := by
  have table : ∀ p ∈ cs, ∃ more : Array Value, h'.get? p.2 = some { cls := .none, data := .fields more } := fun p hp => by
    obtain ⟨_, known⟩ := un.tbls p.2 #[] (S.t p hp)
    exact ⟨_, ok _ _ known⟩
  have other : ∀ b o, (¬ ∃ p ∈ cs, p.2 = b) → s.heap.get? b = some o → h'.get? b = some o := fun b o no e => by
    cases known : H b with
    | none => exact un.keep b o e known (by simp [frs]) (by simp)
    | some u =>
      rcases S.o b u known with ⟨hb, _⟩ | ⟨_, _, ob, xs, rfl⟩
      · exact (no (by simpa using hb)).elim
      · have before := (hok b _ known).1
        have after := (ok b _ (un.frzs b ob _ known)).1
        exact Option.some.inj (e.symm.trans before) ▸ after
  constructor
  · intro b o e
    by_cases is : ∃ p ∈ cs, p.2 = b
    · obtain ⟨p, hp, rfl⟩ := is
      obtain ⟨more, now⟩ := table p hp
      obtain rfl := Option.some.inj ((Z.tab p hp).symm.trans e)
      exact .inr (.inl ⟨((Z.hdr p hp).tab e).isCodeTable, rfl, #[], more, rfl, by simpa using now⟩)
    · exact .inl (other b o is e)
  · intro b o e
    by_cases is : ∃ p ∈ cs, p.2 = b
    · obtain ⟨p, hp, rfl⟩ := is
      obtain ⟨_, now⟩ := table p hp
      exact ⟨_, now⟩
    · exact ⟨o, other b o is e⟩
theorem core_callG (Z : Top0 K mg mb cs s) (ha : s.heap.get? a = some { cls := .type "list", data := .seq us.toArray }) (hr : Room k callerA) (F : ∀ base : Heap, K.In base → base.Ns mainGlobals mg → (∀ p ∈ cs, TabB base mg p.1 p.2) → FnG P w K mg base k fa fd [x] sp)
    (hbind : ∀ (s : Shared) (u : Value), BindsTo s fd ⟨[u], []⟩ [(x, u)]) {H : Hp} (S : Start0 K cs a H) (hok : HOk P w H s.heap) (hsp : sp [.ref a] H (fun v _ => v = .bl true) fun _ _ _ => False) :
    codeAny (model P w) callerA (.call (.ref fa) ⟨[.ref a], []⟩) (fun r s' => r = .ok (.ret (.bool true)) ∧ OldK s.heap s'.heap ∧ s'.os = s.os ∧ AllBare s'.gens) s := by
  have tabAt : ∀ {b : Addr}, b ∈ cs.map (·.2) → s.heap.get? b = some { cls := .none, data := .fields #[] } := fun {b} hb => by
    obtain ⟨p, hp, rfl⟩ := List.mem_map.mp hb
    exact Z.tab p hp
  have free : ∀ {b : Addr} {o : Obj}, s.heap.get? b = some o → (∀ xs n, o.data ≠ .seq xs n) → o.data ≠ .fields #[] → H b = none := fun {b o} e h1 h2 => by
    cases q : H b with
    | none => rfl
    | some u =>
      rcases S.o b u q with ⟨hb, _⟩ | ⟨rfl, _⟩
      · have z := (tabAt hb).symm.trans e
        cases z
        exact absurd rfl h2
      · have z := ha.symm.trans e
        cases z
        exact absurd rfl (h1 _ _)
  have base : ∀ {b : Addr} {o : Obj}, s.heap.get? b = some o → (∀ xs n, o.data ≠ .seq xs n) → o.data ≠ .fields #[] → (hidT s.heap H).get? b = some o := fun e h1 h2 => hidT_get e (free e h1 h2)
  have nsB : ∀ {b : Addr} {m : Str → Option Value}, s.heap.Ns b m → (hidT s.heap H).Ns b m := fun {b m} ⟨o, es, ep, e, dd, r⟩ =>
    ⟨o, es, ep, base e (fun xs n z => by rw [dd] at z; cases z) (fun z => by rw [dd] at z; cases z), dd, r⟩
  have kB : K.In (hidT s.heap H) := fun b o e => hidT_get (Z.kin b o e) (by
    cases q : H b with
    | none => rfl
    | some u =>
      rcases S.o b u q with ⟨hb, _⟩ | ⟨rfl, hk, _⟩
      · obtain ⟨p, hp, rfl⟩ := List.mem_map.mp hb
        rw [Z.out p hp] at e
        cases e
      · rw [hk] at e
        cases e)
  have mB : L2.Mod K mg (hidT s.heap H) := by
    obtain ⟨mc, h1, h2⟩ := Z.lim
    exact ⟨kB, nsB Z.glo, ⟨mb, nsB Z.blt, Z.bbb⟩, ⟨mc, nsB h1, h2⟩⟩
  have tB : ∀ p ∈ cs, TabB (hidT s.heap H) mg p.1 p.2 := fun p hp => by
    refine ⟨?_, ?_, fun z => ?_⟩
    · obtain ⟨o, vs, file, tf, fl, tg, inF, tx, tt, e1, c1, c2, c3, c4⟩ := Z.hdr p hp
      exact ⟨o, vs, file, tf, fl, tg, inF, tx, tt, base e1 (fun xs n z => by rw [c2] at z; cases z) (fun z => by rw [c2] at z; cases z; simp at c3), c1, c2, c3, c4⟩
    · obtain ⟨bm, ob, b1, b2, b3, b4, b5, b6⟩ := Z.bmn
      refine ⟨bm, ob, b1, b2, fun q => ?_, fun q => ?_, base b3 (fun xs n z => by rw [b6] at z; cases z) (fun z => by rw [b6] at z; cases z), b4, b5, b6⟩
      · obtain ⟨o, es, ep, e, dd, _⟩ := Z.glo
        rw [← q, b3] at e
        cases e
        rw [b6] at dd
        cases dd
      · rw [q, Z.tab p hp] at b3
        cases b3
        cases b6
    · obtain ⟨o, es, ep, e, dd, _⟩ := Z.glo
      rw [z, Z.tab p hp] at e
      cases e
      cases dd
  have e0 : Env0 P w K mg (hidT s.heap H) callerA [] s H := by
    refine ⟨rfl, mB, fun b o e => of_hidT e, Nat.le_of_eq (hidT_size _ _), trivial, fun b hb => ?_, hok, .of_eq Z.gen⟩
    cases (show b ∈ ([] : List Addr) from hb)
  refine codeAny_mono ((F _ kB (nsB Z.glo) tB).go callerA [] s H ⟨[.ref a], []⟩ [.ref a] [.ref a] _ _ rfl hr e0 (hbind s (.ref a)) (.cons rfl .nil) hsp) fun r s' h => ?_
  rcases r with e | fl
  · exact (cx_no h).elim
  cases fl with
  | ret u =>
    obtain ⟨v, H', os, bare, un, hok', rv, q⟩ := h
    have q : v = .bl true := q
    subst q
    obtain rfl : u = Value.bool true := rv
    exact ⟨rfl, left_behind Z S hok un hok', os, bare⟩
  | _ => exact False.elim h
theorem law_callG {ns : List Int} (Z : Top0 K mg mb cs s) (ha : s.heap.get? a = some { cls := .type "list", data := .seq us.toArray }) (hi : IntsAre us ns) (hl : ns.length ≤ sizeLine) (hr : Room k callerA)
    (F : ∀ base : Heap, K.In base → base.Ns mainGlobals mg → (∀ p ∈ cs, TabB base mg p.1 p.2) → FnG P w K mg base k fa fd [x] sp) (hbind : ∀ (s : Shared) (u : Value), BindsTo s fd ⟨[u], []⟩ [(x, u)])
    (hsp : ∀ H : Hp, Start0 K cs a H → SqL K H a (ns.map V.int) → sp [.ref a] H (fun v _ => v = .bl true) fun _ _ _ => False) :
    codeAny (model P w) callerA (.call (.ref fa) ⟨[.ref a], []⟩) (fun r s' => r = .ok (.ret (.bool true)) ∧ OldK s.heap s'.heap ∧ s'.os = s.os ∧ AllBare s'.gens) s := by
  have rv := vals_ints hi
  have aT : a ∉ cs.map (·.2) := fun z => by
    obtain ⟨p, hp, e⟩ := List.mem_map.mp z
    have q := Z.tab p hp
    rw [e, ha] at q
    cases q
  have inT : ∀ {p : Addr × Addr}, p ∈ cs → p.2 ∈ cs.map (·.2) := fun hp => List.mem_map_of_mem hp
  cases hk : K.lookup a with
  | some o =>
    have e := Z.kin a o hk
    rw [ha] at e
    cases e
    have S : Start0 K cs a (fun b => if b ∈ cs.map (·.2) then some (.tbl #[]) else none) := by
      refine ⟨fun p hp => if_pos (inT hp), fun b u q => ?_⟩
      split at q
      · cases q
        exact .inl ⟨by assumption, rfl⟩
      · cases q
    refine core_callG Z ha hr F hbind S (fun b u q => ?_) (hsp _ S (.inr ⟨_, us.toArray, _, hk, rfl, rfl, rfl, ?_, by simpa using rv⟩))
    · rcases S.o b u q with ⟨hb, rfl⟩ | ⟨_, _, ob, xs, rfl⟩
      · obtain ⟨p, hp, rfl⟩ := List.mem_map.mp hb
        exact Z.tab p hp
      · skip
        split at q <;> cases q
    · rw [List.size_toArray, hi.length]
      exact hl
  | none =>
    have S : Start0 K cs a (fun b => if b = a then some (.frz { cls := .type "list", data := .seq us.toArray } (.lst (ns.map V.int))) else if b ∈ cs.map (·.2) then some (.tbl #[]) else none) := by
      refine ⟨fun p hp => ?_, fun b u q => ?_⟩
      · have ne : p.2 ≠ a := fun z => aT (z ▸ inT hp)
        exact (if_neg ne).trans (if_pos (inT hp))
      · skip
        split at q
        · cases q
          exact .inr ⟨by assumption, hk, _, _, rfl⟩
        · split at q
          · cases q
            exact .inl ⟨by assumption, rfl⟩
          · cases q
    refine core_callG Z ha hr F hbind S (fun b u q => ?_) (hsp _ S (.inl (.inr ⟨_, if_pos rfl⟩)))
    split at q
    · rename_i e
      cases q
      subst e
      exact ⟨ha, by rw [List.length_map]; exact hl, us, _, rv, ha⟩
    · split at q
      · rename_i hb
        cases q
        obtain ⟨p, hp, rfl⟩ := List.mem_map.mp hb
        exact Z.tab p hp
      · cases q
end
def lamNm (x : Str) : Str := x ++ ".<locals>." ++ "<lambda>"
structure LamT (K : PySem.W.Frag) (mg : Str → Option Value) (base : Heap) (T : List (Addr × Str)) (x : Str) : Prop where
  tb : TabB base mg (He.codeOf K (x, none)) (He.cT K (x, none)).2
  mem : ((He.cT K (x, none)).2, lamNm x) ∈ T
  uni : ∀ p ∈ T, p.1 = (He.cT K (x, none)).2 → p.2 = lamNm x
section
variable {P : Program} {w : World} {K : PySem.W.Frag} {mg : Str → Option Value} {base : Heap} {T : List (Addr × Str)}
end
abbrev IniV : Type := Option (Str × Str × Arguments × FuncBody × Scope × Addr × Value × Addr)
structure IniD where
  C : Str
  st : Stmt
def iniA (K : PySem.W.Frag) (C : Str) : Addr := He.ma K (He.ga K C) "__init__"
def iniObs (K : PySem.W.Frag) (C : Str) : IniV := match K.lookup (iniA K C) with
  | some ⟨_, _, .func fd, _⟩ => some (fd.name, fd.qualname, fd.params, fd.body, fd.scope, fd.globals, fd.defaults, fd.builtins)
  | _ => none
def IniD.val (d : IniD) : IniV := some ("__init__", d.C ++ ".__init__", defArgs d.st, .stmts (defBody d.st), defScope d.st, mainGlobals, .none, builtinsNs)
structure SaysZ (fa : List He.Fa) (fn : List He.DefD) (fb : List He5.DefA) (xi : List IniD) (tf : List Str) (ex : PySem.W.Frag → Bool) (h : Heap) (K : PySem.W.Frag) : Prop where
  d : He.SaysD fa fn K
  a : He5.SaysA [] fb K
  i : xi.map (fun d => iniObs K d.C) = xi.map IniD.val
  x : ex K = true
  nd : (tf.map fun p => (He.cT K (p, none)).2).Nodup
  hd : ∀ p ∈ tf, PySem.W.codeHdIn K (He.cT K (p, none)).1 (He.cT K (p, none)).2 = true
  out : ∀ p ∈ tf, K.lookup (He.cT K (p, none)).2 = none
  emp : ∀ p ∈ tf, h.get? (He.cT K (p, none)).2 = some { cls := .none, data := .fields #[] }
abbrev AlZ : Type := He.AlD × He.AlD × List IniV × Bool
def frZ (g : Addr → Option Obj) (n : Nat) : PySem.W.Frag := He.frT g (He5.asA g n)
def obsZ (n : Nat) (fa : List He.Fa) (fn : List He.DefD) (fb : List He5.DefA) (xi : List IniD) (tf : List Str) (ex : PySem.W.Frag → Bool) (g : Addr → Option Obj) : AlZ :=
  (He.obsD fa fn (frZ g n), He5.obsA [] fb (frZ g n), xi.map (fun d => iniObs (frZ g n) d.C), ex (frZ g n) && (decide ((tf.map fun p => (He.cT (frZ g n) (p, none)).2).Nodup) && He.tabsB g (tf.map fun p => (p, none)) (frZ g n)))
def valZ (fn : List He.DefD) (fb : List He5.DefA) (xi : List IniD) : AlZ := (He.valD fn, He5.valA fb, xi.map IniD.val, true)
theorem saysZ_of {n : Nat} {fa : List He.Fa} {fn : List He.DefD} {fb : List He5.DefA} {xi : List IniD} {tf : List Str} {ex : PySem.W.Frag → Bool} {h : Heap} (e : obsZ n fa fn fb xi tf ex h.get? = valZ fn fb xi) : SaysZ fa fn fb xi tf ex h (frZ h.get? n) := by
  have e4 : (ex (frZ h.get? n) && (decide ((tf.map fun p => (He.cT (frZ h.get? n) (p, none)).2).Nodup) && He.tabsB h.get? (tf.map fun p => (p, none)) (frZ h.get? n))) = true := congrArg (fun z : AlZ => z.2.2.2) e
  obtain ⟨h1, h2⟩ := He.ba e4
  obtain ⟨h2, h3⟩ := He.ba h2
  have key : ∀ p ∈ tf, PySem.W.codeHdIn (frZ h.get? n) (He.cT (frZ h.get? n) (p, none)).1 (He.cT (frZ h.get? n) (p, none)).2 = true ∧ ∃ o, h.get? (He.cT (frZ h.get? n) (p, none)).2 = some o ∧ He.emptyTab o = true := fun p hp => by
    obtain ⟨z1, z2⟩ := He.ba (List.all_eq_true.mp h3 (p, none) (List.mem_map_of_mem hp))
    refine ⟨z1, ?_⟩
    cases q : h.get? (He.cT (frZ h.get? n) (p, none)).2 with
    | none =>
      rw [q] at z2
      cases z2
    | some o =>
      rw [q] at z2
      exact ⟨o, rfl, z2⟩
  refine ⟨congrArg (fun z : AlZ => z.1) e, congrArg (fun z : AlZ => z.2.1) e, congrArg (fun z : AlZ => z.2.2.1) e, h1, of_decide_eq_true h2, fun p hp => (key p hp).1, fun p hp => ?_, fun p hp => ?_⟩
  · obtain ⟨_, o, q, z⟩ := key p hp
    exact He.frT_none q z
  · obtain ⟨_, o, q, z⟩ := key p hp
    rw [q, He.emptyTab_eq z]
def hookZ (n : Nat) (fa : List He.Fa) (fn : List He.DefD) (fb : List He5.DefA) (xi : List IniD) (tf : List Str) (ex : PySem.W.Frag → Bool) : PySem.W.Hook where
  α := AlZ
  obs := fun s => obsZ n fa fn fb xi tf ex s.heap.get?
  val := fun _ => valZ fn fb xi
  says := fun _ h => ∃ K : PySem.W.Frag, K.In h ∧ SaysZ fa fn fb xi tf ex h K
  of := fun _ _ e => ⟨_, He.frT_in, saysZ_of e⟩
  keeps := fun _ _ _ ⟨K, hK, c⟩ k => ⟨K, PySem.W.Frag.In.keeps hK k, ⟨c.d, c.a, c.i, c.x, c.nd, c.hd, c.out, fun p hp => k _ _ (c.emp p hp)⟩⟩
def tabT (K : PySem.W.Frag) (tf : List Str) : List (Addr × Str) := tf.map fun p => ((He.cT K (p, none)).2, lamNm p)
theorem lamT_of {K : PySem.W.Frag} {mg : Str → Option Value} {base : Heap} {tf : List Str} (nd : (tf.map fun p => (He.cT K (p, none)).2).Nodup) (tb : ∀ p ∈ tf, TabB base mg (He.codeOf K (p, none)) (He.cT K (p, none)).2) {x : Str} (hx : x ∈ tf) : LamT K mg base (tabT K tf) x := by
  refine ⟨tb x hx, List.mem_map.mpr ⟨x, hx, rfl⟩, fun p hp e => ?_⟩
  obtain ⟨y, hy, rfl⟩ := List.mem_map.mp hp
  have e : (He.cT K (y, none)).2 = (He.cT K (x, none)).2 := e
  have key : ∀ {l : List Str}, (l.map fun p => (He.cT K (p, none)).2).Nodup → y ∈ l → x ∈ l → y = x := fun {l} => by
    induction l with
    | nil => intro _ h; cases h
    | cons a l ih =>
      intro nd h1 h2
      rw [List.map_cons, List.nodup_cons] at nd
      rcases List.mem_cons.mp h1 with z1 | z1
      · rcases List.mem_cons.mp h2 with z2 | z2
        · exact z1.trans z2.symm
        · exact absurd (show (He.cT K (a, none)).2 ∈ l.map (fun p => (He.cT K (p, none)).2) from List.mem_map.mpr ⟨x, z2, by rw [← z1]; exact e.symm⟩) nd.1
      · rcases List.mem_cons.mp h2 with z2 | z2
        · exact absurd (show (He.cT K (a, none)).2 ∈ l.map (fun p => (He.cT K (p, none)).2) from List.mem_map.mpr ⟨y, z1, by rw [← z2]; exact e⟩) nd.1
        · exact ih nd.2 z1 z2
  rw [key nd hy hx]
theorem good_startT {K : PySem.W.Frag} {H : Hp} {a : Addr} {ns : List Int} {tf : List Str} (hl : ns.length ≤ sizeLine) (S : Start0 K (tf.map fun p => He.cT K (p, none)) a H) (h : SqL K H a (ns.map V.int)) : ∃ wd : Wd, Good (tabT K tf) wd H ∧ Rep K wd (.ref a) (.scr ns) := by
  have tab : Tabs (tabT K tf) H := fun q hq => by
    obtain ⟨p, hp, rfl⟩ := List.mem_map.mp hq
    exact TabS.nil (S.t _ (List.mem_map.mpr ⟨p, hp, rfl⟩))
  have siz : ∀ b o, H b = some o → SizedH o := fun b o e => by
    rcases S.o b o e with ⟨_, rfl⟩ | ⟨_, _, _, _, rfl⟩ <;> exact trivial
  have hl' : (ns.map V.int).length ≤ sizeLine := by rw [List.length_map]; exact hl
  have key : ∀ o, H a = some o → noTb o → Sized o → Good (tabT K tf) ⟨fun b => if b = a then some o else none, []⟩ H := fun o e t z => by
    refine ⟨fun b u q => ?_, fun b u q => ?_, fun b hb => (nomatch hb), tab, siz⟩
    · have q : (if b = a then some o else none) = some u := q
      split at q
      · rename_i eb
        rw [eb, e, q]
      · cases q
    · have q : (if b = a then some o else none) = some u := q
      split at q
      · cases q
        exact ⟨t, z⟩
      · cases q
  rcases h with (h | ⟨o, h⟩) | h
  · exact ⟨_, key _ h noTb_lst hl', .scr (.inl (.inl (if_pos rfl)))⟩
  · exact ⟨_, key _ h (fun _ z => nomatch z) hl', .scr (.inl (.inr ⟨o, if_pos rfl⟩))⟩
  · exact ⟨⟨fun _ => none, []⟩, ⟨fun b u q => (nomatch q), fun b u q => (nomatch q), fun b hb => (nomatch hb), tab, siz⟩, .scr (.inr h)⟩
theorem law_endZ {l : PySem.W.OpenLaw} {k : Nat} {q : Program} {loose : List Str} {XP : (Str → Option Value) → Heap → Prop} {d : DefRec} {x : Str} {fa : List He.Fa} {fn : List He.DefD} {fb : List He5.DefA} {xi : List IniD} {tf : List Str} {ex : PySem.W.Frag → Bool} {n : Nat} {st : Stmt} {F : Fn}
    (hn : l.most = some 63) (hdf : d.params.defaults = []) (hr : Room k callerA) (hname : d.name = "law")
    (hd : ∀ (w : World) (K : PySem.W.Frag) (mg : Str → Option Value) (h base : Heap), K.In h → h.Ns mainGlobals mg → SaysZ fa fn fb xi tf ex h K → HasD K mg "law" st ∧ ((∀ y ∈ tf, LamT K mg base (tabT K tf) y) → DefG l.prog w K mg base (tabT K tf) "law" k [x] F))
    (hb : ∀ (K : PySem.W.Frag) (f : Addr) (fd : FuncData), FunD K "law" "law" (defArgs st) (defBody st) (defScope st) [] [] f fd → ∀ (s : Shared) (u : Value), BindsTo s fd ⟨[u], []⟩ [(x, u)])
    (law : ∀ ns : List Int, ns.length ≤ 63 → F [.scr ns] (fun v => v = .bl true) (fun _ => False)) :
    PySem.W.WalkO q loose XP (hookZ n fa fn fb xi tf ex).says l.row.toRowW d [] (fun f vs => PySem.call f vs) := by
  refine Att.attach_callB hn hdf fun w s₀ s₁ mg mb f o pm cd doc a vs ns G Y ho hdd hcd hmg hobj hints hlen hbits hg => ?_
  obtain ⟨K, KX, c⟩ := Y
  rw [hname] at hmg
  obtain ⟨⟨f', fd, D, gm⟩, _⟩ := hd w K mg s₁.heap s₁.heap KX G.T.g c
  rw [gm] at hmg
  cases hmg
  have Z : Top0 K mg mb (tf.map fun p => He.cT K (p, none)) s₁ := by
    refine ⟨KX, G.T.g, G.T.b, G.T.builtins, G.T.nolimit, hg, fun p hp => ?_, fun p hp => ?_, fun p hp => ?_, G.T.bmain⟩
    · obtain ⟨y, hy, rfl⟩ := List.mem_map.mp hp
      exact c.emp y hy
    · obtain ⟨y, hy, rfl⟩ := List.mem_map.mp hp
      exact c.out y hy
    · obtain ⟨y, hy, rfl⟩ := List.mem_map.mp hp
      exact PySem.W.codeHd_of_K KX (c.hd y hy)
  refine law_callG (sp := spec K (tabT K tf) F) Z hobj hints (Nat.le_trans hlen (by decide)) hr (fun base KB GB TB => ?_) (hb K _ fd D) fun H S hS => ?_
  · obtain ⟨f2, fd2, g1, g2, g3, g4, oc2, od2, osl2, lk2⟩ := ((hd w K mg s₁.heap base KX G.T.g c).2 fun y hy => lamT_of c.nd (fun p hp => TB _ (List.mem_map.mpr ⟨p, hp, rfl⟩)) hy).ex
    rw [gm] at g1
    cases g1
    have e : fd2 = fd := by
      obtain ⟨oc, od, dV, kV, doc, pm, an, cdv, ct, osl, _, lk, _⟩ := D.ex
      rw [lk] at lk2
      cases lk2
      rfl
    rw [e] at g4
    exact g4
  · obtain ⟨wd, g, r⟩ := good_startT (Nat.le_trans hlen (by decide)) S hS
    refine ⟨wd, [.scr ns], _, _, g, .cons r .nil, law ns hlen, fun x hx => hx.elim, fun d hd v wd' H' _ _ _ rp => ?_⟩
    rw [hd] at rp
    cases rp
    rfl
end Pd

namespace Pd
open PySem PySem.Spec PyProof.Rows L2
def pushB : List Addr → Nat → List Addr → (Nat → List Addr → List Addr) → List Addr
  | [], v, acc, k => k v acc
  | a :: r, v, acc, k => match Nat.testBit v a with
    | true => pushB r v acc k
    | false => pushB r (v ||| (1 <<< a)) (a :: acc) k
def refsG (g : Addr → Option Obj) (a : Addr) : List Addr := match g a with
  | some o => He.refsD o
  | none => []
def bfsB (g : Addr → Option Obj) : Nat → Nat → List Addr → List Addr
  | 0, _, l => l
  | n + 1, v, l => pushB (l.flatMap (refsG g)) v [] fun v l' => l ++ bfsB g n v l'
def asB (g : Addr → Option Obj) (n : Nat) : List Addr := bfsB g n (1 <<< mainGlobals) [mainGlobals] ++ [cStatics]
def frB (g : Addr → Option Obj) (n : Nat) : PySem.W.Frag := He.frT g (asB g n)
def obsV (n : Nat) (fa : List He.Fa) (fn : List He.DefD) (fb : List He5.DefA) (xi : List IniD) (tf : List Str) (ex : PySem.W.Frag → Bool) (g : Addr → Option Obj) : AlZ :=
  (He.obsD fa fn (frB g n), He5.obsA [] fb (frB g n), xi.map (fun d => iniObs (frB g n) d.C), ex (frB g n) && (decide ((tf.map fun p => (He.cT (frB g n) (p, none)).2).Nodup) && He.tabsB g (tf.map fun p => (p, none)) (frB g n)))
theorem saysV_of {n : Nat} {fa : List He.Fa} {fn : List He.DefD} {fb : List He5.DefA} {xi : List IniD} {tf : List Str} {ex : PySem.W.Frag → Bool} {h : Heap} (e : obsV n fa fn fb xi tf ex h.get? = valZ fn fb xi) : SaysZ fa fn fb xi tf ex h (frB h.get? n) := by
  have e4 : (ex (frB h.get? n) && (decide ((tf.map fun p => (He.cT (frB h.get? n) (p, none)).2).Nodup) && He.tabsB h.get? (tf.map fun p => (p, none)) (frB h.get? n))) = true := congrArg (fun z : AlZ => z.2.2.2) e
  obtain ⟨h1, h2⟩ := He.ba e4
  obtain ⟨h2, h3⟩ := He.ba h2
  have key : ∀ p ∈ tf, PySem.W.codeHdIn (frB h.get? n) (He.cT (frB h.get? n) (p, none)).1 (He.cT (frB h.get? n) (p, none)).2 = true ∧ ∃ o, h.get? (He.cT (frB h.get? n) (p, none)).2 = some o ∧ He.emptyTab o = true := fun p hp => by
    obtain ⟨z1, z2⟩ := He.ba (List.all_eq_true.mp h3 (p, none) (List.mem_map_of_mem hp))
    refine ⟨z1, ?_⟩
    cases q : h.get? (He.cT (frB h.get? n) (p, none)).2 with
    | none =>
      rw [q] at z2
      cases z2
    | some o =>
      rw [q] at z2
      exact ⟨o, rfl, z2⟩
  refine ⟨congrArg (fun z : AlZ => z.1) e, congrArg (fun z : AlZ => z.2.1) e, congrArg (fun z : AlZ => z.2.2.1) e, h1, of_decide_eq_true h2, fun p hp => (key p hp).1, fun p hp => ?_, fun p hp => ?_⟩
  · obtain ⟨_, o, q, z⟩ := key p hp
    exact He.frT_none q z
  · obtain ⟨_, o, q, z⟩ := key p hp
    rw [q, He.emptyTab_eq z]
def hookV (n : Nat) (fa : List He.Fa) (fn : List He.DefD) (fb : List He5.DefA) (xi : List IniD) (tf : List Str) (ex : PySem.W.Frag → Bool) : PySem.W.Hook where
  α := AlZ
  obs := fun s => obsV n fa fn fb xi tf ex s.heap.get?
  val := fun _ => valZ fn fb xi
  says := (hookZ n fa fn fb xi tf ex).says
  of := fun _ _ e => ⟨_, He.frT_in, saysV_of e⟩
  keeps := (hookZ n fa fn fb xi tf ex).keeps
theorem obsV_eq {n : Nat} {fa : List He.Fa} {fn : List He.DefD} {fb : List He5.DefA} {xi : List IniD} {tf : List Str} {ex : PySem.W.Frag → Bool} {g : Addr → Option Obj} {s : Shared} (h : ∀ a, g a = s.heap.get? a) : obsV n fa fn fb xi tf ex g = (hookV n fa fn fb xi tf ex).obs s := by
  have e : g = s.heap.get? := funext h
  rw [e] <;> rfl
theorem law_endV {l : PySem.W.OpenLaw} {k : Nat} {q : Program} {loose : List Str} {XP : (Str → Option Value) → Heap → Prop} {d : DefRec} {x : Str} {fa : List He.Fa} {fn : List He.DefD} {fb : List He5.DefA} {xi : List IniD} {tf : List Str} {ex : PySem.W.Frag → Bool} {n : Nat} {st : Stmt} {F : Fn}
    (hn : l.most = some 63) (hdf : d.params.defaults = []) (hr : Room k callerA) (hname : d.name = "law")
    (hd : ∀ (w : World) (K : PySem.W.Frag) (mg : Str → Option Value) (h base : Heap), K.In h → h.Ns mainGlobals mg → SaysZ fa fn fb xi tf ex h K → HasD K mg "law" st ∧ ((∀ y ∈ tf, LamT K mg base (tabT K tf) y) → DefG l.prog w K mg base (tabT K tf) "law" k [x] F))
    (hb : ∀ (K : PySem.W.Frag) (f : Addr) (fd : FuncData), FunD K "law" "law" (defArgs st) (defBody st) (defScope st) [] [] f fd → ∀ (s : Shared) (u : Value), BindsTo s fd ⟨[u], []⟩ [(x, u)])
    (law : ∀ ns : List Int, ns.length ≤ 63 → F [.scr ns] (fun v => v = .bl true) (fun _ => False)) :
    PySem.W.WalkO q loose XP (hookV n fa fn fb xi tf ex).says l.row.toRowW d [] (fun f vs => PySem.call f vs) := law_endZ (n := n) hn hdf hr hname hd hb law
end Pd
namespace Pd
open PySem PySem.W PySem.Calls PyProof.Rows HandSHeadRun
def Run1 (r : OpenRow) (M : Nat) (w : World) : Prop := ∀ os : OsState, (endF (stepQ (denQ tabQ) r.prog w) M r.prog w os).map (fun s => looksF r.prog (boot_heap w.params) s.abs) = some true
def Run2 (r : OpenRow) (q : Program) (M : Nat) (loose : List PySem.Str) (w : World) : Prop := ∀ os : OsState, (endF (stepQ (denQ tabQ) r.prog w) M r.prog w os).map (fun s => seenQ q loose (importedModules r.prog.main.body) (fun s => xlAt q [] s && recOk r.toRowW.records s) s.abs) = some (openGood q loose)
def Run3 (r : OpenRow) (H : Hook) (ob : SharedT → H.α) (M : Nat) (w : World) : Prop := ∀ os : OsState, (endF (stepQ (denQ tabQ) r.prog w) M r.prog w os).map ob = some (H.val w)
theorem runEq_of {r : OpenRow} {q : Program} {H : Hook} {ob : SharedT → H.α} {M : Nat} {loose : List PySem.Str} {w : World} (h1 : Run1 r M w) (h2 : Run2 r q M loose w) (h3 : Run3 r H ob M w) : RunEq r q H ob M loose w := by
  intro os
  have a := h1 os
  have b := h2 os
  have c := h3 os
  cases e : endF (stepQ (denQ tabQ) r.prog w) M r.prog w os with
  | none =>
    rw [e] at a
    cases a
  | some t =>
    rw [e] at a b c
    exact congrArg some (Prod.ext (Option.some.inj a) (Prod.ext (Option.some.inj b) (Option.some.inj c)))
end Pd

namespace Pd
open PySem PySem.Spec PyProof.Rows L2 LamX
section
variable {X : Cx} {i : Nat}
end
section
variable {X : Cx} {T : List (Addr × Str)} {E : XK} {k : Nat}
end
theorem excC_of {K : PySem.W.Frag} {mg : Str → Option Value} {C : Str} (h : (He.Fa.exc C).ok K = true) (g : mg C = some (.ref (He.ga K C))) : ExcC K mg C := by
  obtain ⟨h1, h2, h3, h4⟩ := He.exc_ok h
  exact ⟨h1, h2, h3, h4, g⟩
end Pd

namespace Pd
open PySem PySem.Spec PyProof.Rows L2 LamX
section
variable {X : Cx} {T : List (Addr × Str)} {E : XK} {k : Nat}
end
end Pd

namespace Pd
open PySem PySem.Spec PyProof.Rows L2 LamX
section
variable {prog : Program} {w : World} {A : Around} {E : Value → Shared → Prop} {s : Shared}
end
section
variable {X : Cx} {T : List (Addr × Str)} {E : XK} {k : Nat}
end
end Pd

namespace Zn
open PySem
theorem ne_ {a b : Nat} (h : a ≠ b) : @Ne Addr a b := h
def SrcIt (h : Heap) (it c : Nat) (k : Nat) (xs : Array Value) : Prop := (h.IsListIter it c k ∧ h.IsList c xs) ∨ (h.IsTupleIter it c k ∧ h.IsTuple c xs)
theorem SrcIt.at {h h' : Heap} {it c : Nat} {k : Nat} {xs : Array Value} (s : SrcIt h it c k xs) (h1 : ∀ o, h.get? it = some o → h'.get? it = some o) (h2 : ∀ o, h.get? c = some o → h'.get? c = some o) : SrcIt h' it c k xs := by
  rcases s with ⟨a, b⟩ | ⟨a, b⟩
  · exact .inl ⟨a.at h1, b.at h2⟩
  · exact .inr ⟨a.at h1, b.at h2⟩
section
variable {prog : Program} {w : World} {A : Around} {E : Value → Shared → Prop} {s : Shared}
end
structure Srcs (h : Heap) (b : Nat) (cs : List (Nat × Array Value)) (k m : Nat) : Prop where
  it : ∀ (j : Nat) (c : Nat) (xs : Array Value), cs[j]? = some (c, xs) → SrcIt h (b + j) c (if j < m then k + 1 else k) xs
  lo : ∀ (j : Nat) (c : Nat) (xs : Array Value), cs[j]? = some (c, xs) → c < b
abbrev IsTupN (h : Heap) (T : Nat) (xs : Array Value) : Prop := h.get? T = some { cls := .type "tuple", data := .seq xs }
abbrev IsZ (h : Heap) (z TI TO : Nat) (f0 : Value) (f : Bool) : Prop := h.get? z = some { cls := .type "zip", dict := none, data := .fields #[f0, .bool f, .bool false, .ref TI, .ref TO], slots := #[] }
def itsN (b n : Nat) : Array Value := ((List.range n).map fun j => Value.ref (b + j)).toArray
theorem Srcs.same {h h' : Heap} {b : Nat} {cs : List (Nat × Array Value)} {k m : Nat} (s : Srcs h b cs k m) (e : ∀ a o, a < b + cs.length → h.get? a = some o → h'.get? a = some o) : Srcs h' b cs k m :=
  ⟨fun j c xs hj => (s.it j c xs hj).at (fun o q => e _ o (by have := (List.getElem?_eq_some_iff.mp hj).1; omega) q) (fun o q => e _ o (by have := s.lo j c xs hj; omega) q), s.lo⟩
section
variable {prog : Program} {w : World} {A : Around} {E : Value → Shared → Prop} {s : Shared}
end
end Zn

namespace Zn
open PySem
section
variable {prog : Program} {w : World} {A : Around} {E : Value → Shared → Prop} {s : Shared}
theorem Srcs.step {h' h2 : Heap} {b k m : Nat} {cs : List (Nat × Array Value)} {c : Nat} {xs : Array Value} (hsr : Srcs h' b cs k m) (e1 : cs[m]? = some (c, xs)) (hit2 : SrcIt h2 (b + m) c (k + 1) xs) (sb : Heap.SameBut (b + m) h' h2) : Srcs h2 b cs k (m + 1) := by
  refine ⟨fun j c' xs' hj => ?_, hsr.lo⟩
  by_cases hjm : j = m
  · subst hjm
    rw [e1] at hj
    cases hj
    rw [if_pos (Nat.lt_succ_self _)]
    exact hit2
  · have h0 := hsr.it j c' xs' hj
    have hc := hsr.lo j c' xs' hj
    have ee : (if j < m + 1 then k + 1 else k) = if j < m then k + 1 else k := by
      by_cases hh : j < m
      · rw [if_pos hh, if_pos (by omega)]
      · rw [if_neg hh, if_neg (by omega)]
    rw [ee]
    exact h0.at (fun o q => sb.extBut _ _ (ne_ (by omega)) q) fun o q => sb.extBut _ _ (ne_ (by omega)) q
theorem Srcs.all {h : Heap} {b k : Nat} {cs : List (Nat × Array Value)} (hsr : Srcs h b cs k cs.length) : Srcs h b cs (k + 1) 0 := ⟨fun j c xs hj => by
  have h0 := hsr.it j c xs hj
  rw [if_pos (List.getElem?_eq_some_iff.mp hj).1] at h0
  rw [if_neg (Nat.not_lt_zero _)]
  exact h0, hsr.lo⟩
end
end Zn

namespace Zn
open PySem
structure Zst (h : Heap) (b : Nat) (cs : List (Nat × Array Value)) (k : Nat) : Prop where
  ti : IsTupN h (b + cs.length) (itsN b cs.length)
  sr : Srcs h b cs k 0
  st : (∃ os, IsZ h (b + cs.length + 2) (b + cs.length) (b + cs.length + 1) .none false ∧ IsTupN h (b + cs.length + 1) os ∧ os.size = cs.length) ∨ ∃ (T : Nat) (f : Bool) (oT : Obj), IsZ h (b + cs.length + 2) (b + cs.length) (b + cs.length + 1) (rawInt T) f ∧ h.get? T = some oT ∧ b + cs.length + 2 < T
theorem Zst.keep {h h' : Heap} {b : Nat} {cs : List (Nat × Array Value)} {k : Nat} (z : Zst h b cs k) (e : ∀ a o, a ≤ b + cs.length + 2 → h.get? a = some o → h'.get? a = some o) (e2 : ∀ a o, h.get? a = some o → ∃ o', h'.get? a = some o') : Zst h' b cs k := by
  refine ⟨e _ _ (by omega) z.ti, z.sr.same fun a o hl q => e a o (by omega) q, ?_⟩
  rcases z.st with ⟨os, h1, h2, h3⟩ | ⟨T, f, oT, h1, h2, h3⟩
  · exact .inl ⟨os, e _ _ (by omega) h1, e _ _ (by omega) h2, h3⟩
  · obtain ⟨o', ho⟩ := e2 T oT h2
    exact .inr ⟨T, f, o', e _ _ (by omega) h1, ho, h3⟩
section
variable {prog : Program} {w : World} {A : Around} {E : Value → Shared → Prop} {s : Shared}
end
structure Mde (cs : List (Nat × Array Value)) (lo : Nat) (h : Heap) (as : List Nat) : Prop where
  rise : as.Pairwise (· < ·)
  above : ∀ a ∈ as, lo < a
  there : ∀ (j a : Nat), as[j]? = some a → IsTupN h a (cs.map fun q => q.2[j]?.getD .none).toArray
section
variable {prog : Program} {w : World} {A : Around} {s : Shared} {R : Result → Shared → Prop}
theorem Mde.more {cs : List (Nat × Array Value)} {S n : Nat} {h h2 : Heap} {as : List Nat} (g : Mde cs S h as) (S0 : S < n) (low : ∀ a ∈ as, a < n) (keep : ∀ a o, S < a → h.get? a = some o → h2.get? a = some o) (new : IsTupN h2 n (cs.map fun q => q.2[as.length]?.getD .none).toArray) : Mde cs S h2 (as ++ [n]) := by
  refine ⟨List.pairwise_append.mpr ⟨g.rise, List.pairwise_singleton _ _, fun a ha c hc => ?_⟩, fun a ha => ?_, fun j a hj => ?_⟩
  · rw [List.mem_singleton.mp hc]
    exact low a ha
  · rcases List.mem_append.mp ha with h1 | h1
    · exact g.above a h1
    · rw [List.mem_singleton.mp h1]
      exact S0
  · have lt := (List.getElem?_eq_some_iff.mp hj).1
    simp only [List.length_append, List.length_singleton] at lt
    by_cases last : j = as.length
    · subst last
      obtain rfl : n = a := by simpa using hj
      exact new
    · rw [List.getElem?_append_left (by omega)] at hj
      exact keep a _ (g.above a (List.mem_of_getElem? hj)) (g.there j a hj)
end
section
variable {prog : Program} {w : World} {A : Around} {E : Value → Shared → Prop} {s : Shared}
end
end Zn

namespace Zn
open PySem PySem.F
end Zn

namespace Zn
open PySem PySem.F
def SrcV (h : Heap) (c : Nat) (xs : Array Value) : Prop := h.IsList c xs ∨ h.IsTuple c xs
theorem SrcV.at {h h' : Heap} {c : Nat} {xs : Array Value} (v : SrcV h c xs) (k : ∀ o, h.get? c = some o → h'.get? c = some o) : SrcV h' c xs := by
  rcases v with a | a
  · exact .inl (a.at k)
  · exact .inr (a.at k)
section
variable {prog : Program} {w : World} {A : Around} {E : Value → Shared → Prop} {s : Shared}
end
section
variable {prog : Program} {w : World} {A : Around} {E : Value → Shared → Prop} {s : Shared}
end
end Zn

namespace Zn
open PySem PySem.Spec PyProof.Rows L2
section
variable {X : Cx}
end
end Zn

namespace Pd
open PySem PySem.Spec PyProof.Rows L2 LamX Zn
inductive RepL (K : PySem.W.Frag) (wd : Wd) : List (List V) → List (List D) → Prop
  | nil : RepL K wd [] []
  | cons {xs : List V} {ds : List D} {xss : List (List V)} {dss : List (List D)} : Reps K wd xs ds → RepL K wd xss dss → RepL K wd (xs :: xss) (ds :: dss)
theorem RepL.length {K : PySem.W.Frag} {wd : Wd} : ∀ {xss : List (List V)} {dss : List (List D)}, RepL K wd xss dss → xss.length = dss.length
  | _, _, .nil => rfl
  | _, _, .cons _ t => congrArg (· + 1) t.length
theorem RepL.mono {K : PySem.W.Frag} {wd wd' : Wd} (le : Le wd wd') : ∀ {xss : List (List V)} {dss : List (List D)}, RepL K wd xss dss → RepL K wd' xss dss
  | _, _, .nil => .nil
  | _, _, .cons r t => .cons (r.mono le) (t.mono le)
section
variable {X : Cx} {T : List (Addr × Str)} {E : XK} {k : Nat}
end
end Pd

namespace Pd
open PySem PySem.Spec PyProof.Rows L2 LamX
section
variable {X : Cx} {T : List (Addr × Str)} {E : XK} {k : Nat} {x y : Expr} {a b : W D} {p p1 p2 pos : Pos}
theorem reps_rg {K : PySem.W.Frag} {wd : Wd} (i j : Int) : Reps K wd (L2.rgV i j) (Pd.upTo i j) := by
  unfold L2.rgV Pd.upTo
  have key : ∀ l : List Nat, Reps K wd (l.map fun (m : Nat) => V.int (i + m)) (l.map fun (m : Nat) => D.int (i + m)) := fun l => by
    induction l with
    | nil => exact .nil
    | cons m l ih => exact .cons (.int _) ih
  exact key _
def wRgF (w : W (Int × Int)) : W (List D) := w.bind fun q env Q _ => (-1000000 ≤ q.1 ∧ q.1 ≤ 1000000 ∧ -1000000 ≤ q.2 ∧ q.2 ≤ 1000000) ∧ Q (Pd.upTo q.1 q.2) env
def wRg1 (a : W D) : W (Int × Int) := a.bind fun x env Q _ => match x with
  | .int n => Q (0, n) env
  | _ => False
abbrev JR (T : List (Addr × Str)) (X : Cx) (E : XK) (e : Expr) (w : W (Int × Int)) : Prop := PRg X e (fun σ H Q => lift X.K T (fun _ _ _ _ _ (b : Int × Int) a => b = a) E w σ H fun q H' => Q q.1 q.2 H')
theorem jr_1 (hm : X.mg "range" = none) (ha : JE T X E x a) (hg : Gl X "range" := by rfl) (na : starEach [x] X.env = (false, eval x X.env) :: starEach [] X.env := by rfl) : JR T X E (.Call (.Name "range" p) [x] [] pos) (wRg1 a) := fun pins s σ H Q I ⟨c, wd, env, P, Ex, rl, h, xo, kk⟩ =>
  prg_1 hg hm ha na pins s σ H Q I ⟨c, wd, env, _, Ex, rl, h, xo, fun d env1 h1 v wd1 H1 le1 r1 rp1 => by
    dsimp only at h1
    split at h1
    · cases rp1
      exact ⟨_, rfl, kk (0, _) env1 h1 (0, _) wd1 H1 le1 r1 rfl⟩
    · exact h1.elim⟩
theorem jf_listRg {w : W (Int × Int)} (B : Bd X E k) (hm : X.mg "list" = none) (he : JR T X E x w) (hg : Gl X "list" := by rfl) (na : starEach [x] X.env = (false, eval x X.env) :: starEach [] X.env := by rfl) : JF T X E (.Call (.Name "list" p) [x] [] pos) (wRgF w) :=
  peI (pe_listRg B.calm hg hm he na) fun σ H Q ⟨c, wd, env, P, Ex, rl, h, xo, kk⟩ => ⟨c, wd, env, _, Ex, rl, h, xo, fun q env1 h1 q' wd1 H1 le1 r1 rp1 => by
    subst rp1
    obtain ⟨⟨i0, i1, j0, j1⟩, h2⟩ := h1
    refine ⟨⟨by omega, by omega, by omega, by omega, by omega⟩, fun S hS => ?_⟩
    obtain ⟨r3, f⟩ := r1.fresh hS (reps_rg q'.1 q'.2) (by rw [rgV_length, sizeLine_eq]; omega)
    exact kk _ env1 h2 (.ref S) _ _ le1 r3 f⟩
end
end Pd

namespace Pd
open PySem PySem.Spec PyProof.Rows L2 LamX
end Pd

namespace Pd
open PySem PySem.Spec PyProof.Rows L2 LamX
section
variable {P : Program} {w : World} {K : PySem.W.Frag} {mg : Str → Option Value} {base : Heap} {T : List (Addr × Str)}
end
section
variable {X : Cx} {T : List (Addr × Str)} {E : XK} {k : Nat}
end
end Pd

namespace Pd
open PySem PySem.Spec PyProof.Rows L2 LamX
section
variable {X : Cx}
end
end Pd

namespace Pd
open PySem PySem.Spec PyProof.Rows L2 LamX
structure MethOk (P : Program) (w : World) (K : PySem.W.Frag) (mg : Str → Option Value) (base : Heap) (T : List (Addr × Str)) (C m : Str) (k : Nat) (F : Fn) : Prop where
  cl : Cls K (He.ga K C)
  ex : ∃ f, Meth K (He.ga K C) m f ∧ FnR P w K mg base (L2.CX P w) k f (spec K T F)
section
variable {X : Cx} {T : List (Addr × Str)} {E : XK} {k : Nat}
end
section
variable {P : Program} {w : World} {K : PySem.W.Frag} {mg : Str → Option Value} {base : Heap} {T : List (Addr × Str)}
end
end Pd

namespace Hd
open PySem PySem.Spec PyProof.Rows L2
def top (i : Nat) : Stmt := PySem.Challenge.pw_sumsalone_k21_most_units_by_all_sets.main.body.getD i (.Pass ⟨0, 0, 0, 0⟩)
abbrev s_is_integer : Stmt := top 2
abbrev s_is_from : Stmt := top 3
abbrev s_is_count : Stmt := top 4
abbrev s_are_counts : Stmt := top 5
abbrev s_is_cap : Stmt := top 14
abbrev s_is_sums : Stmt := top 15
abbrev s_require_table_sums : Stmt := top 16
abbrev s_room : Stmt := top 18
abbrev s_heaviest : Stmt := top 19
abbrev s_bound : Stmt := top 21
abbrev s_tight_lines : Stmt := top 22
abbrev s_most_units : Stmt := top 23
abbrev s_fewest_taken : Stmt := top 24
abbrev s_L_urn : Stmt := top 26
abbrev s_L_ball : Stmt := top 27
abbrev s_L_pick : Stmt := top 28
abbrev s_L_grid : Stmt := top 29
abbrev s_L_line_sums : Stmt := top 30
abbrev s_L_column_sums : Stmt := top 31
abbrev s_L_room : Stmt := top 32
abbrev s_L_has_table : Stmt := top 33
abbrev s_L_near : Stmt := top 34
abbrev s_L_sets : Stmt := top 35
abbrev s_L_by_sets : Stmt := top 36
abbrev s_L_by_force : Stmt := top 37
abbrev s_L_right : Stmt := top 38
abbrev s_law : Stmt := top 39
def d_is_integer : He.DefD := ⟨("is_integer", none), "is_integer", "is_integer", defArgs s_is_integer, defBody s_is_integer, defScope s_is_integer, [], []⟩
def d_is_from : He.DefD := ⟨("is_from", none), "is_from", "is_from", defArgs s_is_from, defBody s_is_from, defScope s_is_from, [], []⟩
def d_is_count : He.DefD := ⟨("is_count", none), "is_count", "is_count", defArgs s_is_count, defBody s_is_count, defScope s_is_count, [], []⟩
def d_are_counts : He.DefD := ⟨("are_counts", none), "are_counts", "are_counts", defArgs s_are_counts, defBody s_are_counts, defScope s_are_counts, [], []⟩
def d_is_cap : He.DefD := ⟨("is_cap", none), "is_cap", "is_cap", defArgs s_is_cap, defBody s_is_cap, defScope s_is_cap, [], []⟩
def d_is_sums : He.DefD := ⟨("is_sums", none), "is_sums", "is_sums", defArgs s_is_sums, defBody s_is_sums, defScope s_is_sums, [], []⟩
def d_require_table_sums : He.DefD := ⟨("require_table_sums", none), "require_table_sums", "require_table_sums", defArgs s_require_table_sums, defBody s_require_table_sums, defScope s_require_table_sums, [], []⟩
def d_room : He.DefD := ⟨("room", none), "room", "room", defArgs s_room, defBody s_room, defScope s_room, [], []⟩
def d_heaviest : He.DefD := ⟨("heaviest", none), "heaviest", "heaviest", defArgs s_heaviest, defBody s_heaviest, defScope s_heaviest, [], []⟩
def d_bound : He.DefD := ⟨("bound", none), "bound", "bound", defArgs s_bound, defBody s_bound, defScope s_bound, [], []⟩
def d_tight_lines : He.DefD := ⟨("tight_lines", none), "tight_lines", "tight_lines", defArgs s_tight_lines, defBody s_tight_lines, defScope s_tight_lines, [], []⟩
def d_most_units : He.DefD := ⟨("most_units", none), "most_units", "most_units", defArgs s_most_units, defBody s_most_units, defScope s_most_units, [], []⟩
def d_fewest_taken : He.DefD := ⟨("fewest_taken", none), "fewest_taken", "fewest_taken", defArgs s_fewest_taken, defBody s_fewest_taken, defScope s_fewest_taken, [], []⟩
def d_L_urn : He.DefD := ⟨("_law_urn", none), "_law_urn", "_law_urn", defArgs s_L_urn, defBody s_L_urn, defScope s_L_urn, [], []⟩
def d_L_ball : He.DefD := ⟨("_law_ball", none), "_law_ball", "_law_ball", defArgs s_L_ball, defBody s_L_ball, defScope s_L_ball, [], []⟩
def d_L_pick : He.DefD := ⟨("_law_pick", none), "_law_pick", "_law_pick", defArgs s_L_pick, defBody s_L_pick, defScope s_L_pick, [], []⟩
def d_L_grid : He.DefD := ⟨("_law_grid", none), "_law_grid", "_law_grid", defArgs s_L_grid, defBody s_L_grid, defScope s_L_grid, [], []⟩
def d_L_line_sums : He.DefD := ⟨("_law_line_sums", none), "_law_line_sums", "_law_line_sums", defArgs s_L_line_sums, defBody s_L_line_sums, defScope s_L_line_sums, [], []⟩
def d_L_column_sums : He.DefD := ⟨("_law_column_sums", none), "_law_column_sums", "_law_column_sums", defArgs s_L_column_sums, defBody s_L_column_sums, defScope s_L_column_sums, [], []⟩
def d_L_room : He.DefD := ⟨("_law_room", none), "_law_room", "_law_room", defArgs s_L_room, defBody s_L_room, defScope s_L_room, [], []⟩
def d_L_has_table : He.DefD := ⟨("_law_has_table", none), "_law_has_table", "_law_has_table", defArgs s_L_has_table, defBody s_L_has_table, defScope s_L_has_table, [], []⟩
def d_L_near : He.DefD := ⟨("_law_near", none), "_law_near", "_law_near", defArgs s_L_near, defBody s_L_near, defScope s_L_near, [], []⟩
def d_L_sets : He.DefD := ⟨("_law_sets", none), "_law_sets", "_law_sets", defArgs s_L_sets, defBody s_L_sets, defScope s_L_sets, [], []⟩
def d_L_by_sets : He.DefD := ⟨("_law_by_sets", none), "_law_by_sets", "_law_by_sets", defArgs s_L_by_sets, defBody s_L_by_sets, defScope s_L_by_sets, [], []⟩
def d_L_by_force : He.DefD := ⟨("_law_by_force", none), "_law_by_force", "_law_by_force", defArgs s_L_by_force, defBody s_L_by_force, defScope s_L_by_force, [], []⟩
def d_L_right : He.DefD := ⟨("_law_right", none), "_law_right", "_law_right", defArgs s_L_right, defBody s_L_right, defScope s_L_right, [], []⟩
def d_law : He.DefD := ⟨("law", none), "law", "law", defArgs s_law, defBody s_law, defScope s_law, [], []⟩
def fn0 : List He.DefD := [d_is_integer, d_is_from, d_is_count, d_are_counts, d_is_cap, d_is_sums, d_require_table_sums, d_room, d_heaviest, d_bound, d_tight_lines, d_most_units, d_fewest_taken, d_L_urn, d_L_ball, d_L_pick, d_L_grid, d_L_line_sums, d_L_column_sums, d_L_room, d_L_has_table, d_L_near, d_L_sets, d_L_by_sets, d_L_by_force, d_L_right, d_law]
def fn : List He.DefD := fn0
def fa0 : List He.Fa := [.glo "is_integer", .glo "is_from", .glo "is_count", .glo "are_counts", .glo "is_cap", .glo "is_sums", .glo "require_table_sums", .glo "room", .glo "heaviest", .glo "bound", .glo "tight_lines", .glo "most_units", .glo "fewest_taken", .glo "_law_urn", .glo "_law_ball", .glo "_law_pick", .glo "_law_grid", .glo "_law_line_sums", .glo "_law_column_sums", .glo "_law_room", .glo "_law_has_table", .glo "_law_near", .glo "_law_sets", .glo "_law_by_sets", .glo "_law_by_force", .glo "_law_right", .glo "law", .glo "SumError", .glo "InvalidSums", .free "ValueError"]
def fa1 : List He.Fa := [.free "abs", .free "all", .free "bool", .free "enumerate", .free "int", .free "isinstance", .free "len", .free "list", .free "max", .free "min", .free "range", .free "sorted", .free "str", .free "sum", .free "tuple", .free "zip", .int "MAX_COUNT" 999999999999999999999999999999, .int "MAX_CAP" 9, .int "MAX_LINES" 12, .int "MAX_PLACES" 16, .str "TABLE" "table", .exc "InvalidSums"]
def fa : List He.Fa := fa0 ++ fa1
def loose0 : List Str := ["MAX_COUNT", "is_integer", "is_from", "is_count", "are_counts", "SumError", "InvalidSums", "MAX_CAP", "MAX_LINES", "MAX_PLACES", "TABLE", "is_cap", "is_sums", "require_table_sums", "room", "heaviest", "bound", "tight_lines", "most_units", "fewest_taken", "_law_urn", "_law_ball", "_law_pick", "_law_grid", "_law_line_sums", "_law_column_sums", "_law_room", "_law_has_table", "_law_near", "_law_sets"]
def loose1 : List Str := ["_law_by_sets", "_law_by_force", "_law_right"]
def loose : List Str := loose0 ++ loose1
abbrev R : PySem.W.OpenRow := PySem.W.OpenLaw.row PySem.Challenge.rw_sumsalone_k21_most_units_by_all_sets
def ex (K : PySem.W.Frag) : Bool := true
def xi : List Pd.IniD := []
def tf : List Str := ["heaviest", "tight_lines"]
def fb : List He5.DefA := []
abbrev hk : PySem.W.Hook := Pd.hookV 6 fa fn fb xi tf ex
def ob (s : PySem.W.SharedT) : Pd.AlZ := Pd.obsV 6 fa fn fb xi tf ex (HandSHeadRun.getT s)
theorem ob_eq (s : PySem.W.SharedT) : ob s = hk.obs s.abs := Pd.obsV_eq (HandSHeadRun.getT_eq s)
theorem run1 (w : World) : Pd.Run1 R 12000 w := by
  intro os
  kernel_rfl
theorem run2 (w : World) : Pd.Run2 R (PySem.W.view R.prog [39]) 12000 loose w := by
  intro os
  kernel_rfl
theorem run3 (w : World) : Pd.Run3 R hk ob 12000 w := by
  intro os
  kernel_rfl
theorem run (w : World) : HandSHeadRun.RunEq R (PySem.W.view R.prog [39]) hk ob 12000 loose w := Pd.runEq_of (run1 w) (run2 w) (run3 w)
end Hd

namespace Pd
open PySem PySem.Spec PyProof.Rows L2 LamX
theorem forW_ind {g : WG} {b : (PEnv → Prop) → PEnv → Prop} {fin : PEnv → Prop} (I : List D → PEnv → Prop)
    (step : ∀ x rest env, I (x :: rest) env → (∀ env', I rest env' → forW g b fin rest env') → g x env fun env' => b (forW g b fin rest) env') (done : ∀ env, I [] env → fin env) : ∀ xs env, I xs env → forW g b fin xs env
  | [], env, h => done env h
  | x :: rest, env, h => step x rest env h fun env' h' => forW_ind I step done rest env' h'
theorem compW_ind {g : WG} {t : W Bool} {e : W D} {vs : List Nat} {Q : List D → PEnv → Prop} (I : List D → PEnv → List D → Prop)
    (step : ∀ x rest env acc, I (x :: rest) env acc → (∀ env' acc', I rest env' acc' → compW g t e vs Q rest env' acc') → compW g t e vs Q (x :: rest) env acc) (done : ∀ env acc, I [] env acc → Q acc env) : ∀ xs env acc, I xs env acc → compW g t e vs Q xs env acc
  | [], env, acc, h => done env acc h
  | x :: rest, env, acc, h => step x rest env acc h fun env' acc' h' => compW_ind I step done rest env' acc' h'
abbrev Ti (ns : List Int) : D := .tup (ns.map D.int)
def isI : D → Bool
  | .int _ => true
  | _ => false
def inR (x : D) (a b : Int) : Bool := match x with
  | .int i => decide (a ≤ i) && decide (i ≤ b)
  | _ => false
def kd (x : D) : Prop := (dTy x).isSome = true
theorem plain_ints : ∀ ns : List Int, (ns.map D.int).all (plain 50) = true := fun ns => by
  rw [List.all_map]
  exact List.all_eq_true.mpr fun x _ => rfl
theorem toPy_ints (ns : List Int) : (ns.map D.int).map toPy = ns.map PyData.int := by
  rw [List.map_map]
  rfl
def dn (ns : List Int) : List Int := ns.mergeSort fun a b => decide (b ≤ a)
def up (ns : List Int) : List Int := ns.mergeSort fun a b => decide (a ≤ b)
theorem alike_int_all (ns : List Int) : PySem.W.AllAlike (ns.map PyData.int) := fun d hd d' hd' => by
  obtain ⟨a, _, rfl⟩ := List.mem_map.mp hd
  obtain ⟨b, _, rfl⟩ := List.mem_map.mp hd'
  rfl
theorem srt_ints (ns : List Int) : Srt (ns.map D.int) := by
  refine ⟨plain_ints ns, by rw [toPy_ints]; exact alike_int_all ns, .inr fun d hd => ?_⟩
  rw [toPy_ints] at hd
  obtain ⟨a, _, rfl⟩ := List.mem_map.mp hd
  exact ⟨(fun z => by cases z), (fun xs z => by cases z)⟩
theorem ms_up (ns : List Int) : (ns.map D.int).mergeSort (leD false) = (up ns).map D.int :=
  (List.map_mergeSort (r := fun a b : Int => decide (a ≤ b)) (s := leD false) (f := D.int) (fun a _ b _ => (congrFun (congrFun (PySem.W.dataLe_int (fun b : Int => b)) a) b).symm)).symm
theorem dn_perm (ns : List Int) : (dn ns).Perm ns := List.mergeSort_perm _ _
theorem up_perm (ns : List Int) : (up ns).Perm ns := List.mergeSort_perm _ _
theorem dn_sorted (ns : List Int) : (dn ns).Pairwise fun a b => b ≤ a := by
  have h := List.pairwise_mergeSort (le := fun a b : Int => decide (b ≤ a)) (fun a b c h1 h2 => decide_eq_true (Int.le_trans (of_decide_eq_true h2) (of_decide_eq_true h1))) (fun a b => by
    by_cases h : b ≤ a
    · simp [h]
    · have : a ≤ b := by omega
      simp [this]) ns
  exact h.imp fun h => of_decide_eq_true h
theorem up_sorted (ns : List Int) : (up ns).Pairwise fun a b => a ≤ b := by
  have h := List.pairwise_mergeSort (le := fun a b : Int => decide (a ≤ b)) (fun a b c h1 h2 => decide_eq_true (Int.le_trans (of_decide_eq_true h1) (of_decide_eq_true h2))) (fun a b => by
    by_cases h : a ≤ b
    · simp [h]
    · have : b ≤ a := by omega
      simp [this]) ns
  exact h.imp fun h => of_decide_eq_true h
def F_is_integer : Fn := fun ds Q _ => ∃ x, ds = [x] ∧ kd x ∧ Q (.bl (isI x))
def F_is_from : Fn := fun ds Q _ => ∃ x a b, ds = [x, .int a, .int b] ∧ kd x ∧ Q (.bl (inR x a b))
def F_draw : Fn := fun ds Q _ => ∃ p n, ds = [.box p, .int n] ∧ 0 < n ∧ n < 2 ^ 200 ∧ ∀ r, 0 ≤ r → r < n → Q (.int r)
def F_pick : Fn := fun ds Q _ => ∃ p x xs, ds = [.box p, x] ∧ dItems x = some xs ∧ xs ≠ [] ∧ xs.length ≤ 1000000 ∧ ∀ y ∈ xs, Q y
def F_newbox : Fn := fun ds Q _ => ∃ ns i, ds = [.scr ns, .int i] ∧ 0 ≤ i ∧ i ≤ 1000 ∧ ns.length ≤ 1000 ∧ ∀ p, Q (.box p)
theorem pure_is_integer (ds : List D) (Q : D → Prop) (Ex : Xc → Prop) (h : F_is_integer ds Q Ex) : (sRet (wAnd (w1 (dIsi "int") (wVar 0)) (wNot (w1 (dIsi "bool") (wVar 0))))) (dEnds Q Ex) (startE ["value"] ds) := by
  obtain ⟨x, rfl, k, q⟩ := h
  cases x with
  | int i => exact br_tt rfl q
  | bl b => exact br_tt rfl q
  | non => exact br_ff rfl q
  | str x => exact br_ff rfl q
  | tup x => exact br_ff rfl q
  | lst x => exact br_ff rfl q
  | dic x => exact br_ff rfl q
  | _ => cases k
theorem pure_is_from (ds : List D) (Q : D → Prop) (Ex : Xc → Prop) (h : F_is_from ds Q Ex) : (sRet (wAnd (wCall F_is_integer (wCons (wVar 0) wNil)) (wChain dLe dLe (wVar 1) (wVar 0) (wVar 2)))) (dEnds Q Ex) (startE ["value", "first", "last"] ds) := by
  obtain ⟨x, a, b, rfl, k, q⟩ := h
  refine ⟨x, rfl, k, br_of (fun h => ?_) (fun h => ?_)⟩
  · cases x with
    | int i =>
      refine br_if (fun h1 => ?_) (fun h1 => ?_)
      · have e : inR (.int i) a b = decide (i ≤ b) := by simp [inR, h1]
        rw [e] at q
        exact q
      · have e : inR (.int i) a b = false := by simp [inR, h1]
        rw [e] at q
        exact q
    | _ => cases h
  · have e : inR x a b = false := by
      cases x with
      | int i => cases h
      | _ => rfl
    rw [e] at q
    exact q
theorem comp_enc {α : Type} {v : Nat} {t : W Bool} {e : W D} {Q : List D → PEnv → Prop} (E : Option Sl → PEnv) (enc h : α → D) (p : α → Bool) : ∀ (as : List α) (s0 : Option Sl) (acc : List D), (∀ s x, (wipeE (E s) [v]).set v (some (.d x)) = E (some (.d x))) →
    (∀ a ∈ as, ∀ (K : Bool → PEnv → Prop) ex, K (p a) (E (some (.d (enc a)))) → t (E (some (.d (enc a)))) K ex) → (∀ a ∈ as, p a = true → ∀ (K : D → PEnv → Prop) ex, K (h a) (E (some (.d (enc a)))) → e (E (some (.d (enc a)))) K ex) →
    (∀ s, Q (acc ++ ((as.filter p).map h)) (E s)) → compW (gNm v) t e [v] Q (as.map enc) (E s0) acc
  | [], s0, acc, _, _, _, hQ => by
    have := hQ s0
    simpa [compW] using this
  | a :: as, s0, acc, hE, ht, he, hQ => by
    show t ((wipeE (E s0) [v]).set v (some (.d (enc a)))) _ _
    rw [hE]
    refine ht a List.mem_cons_self _ _ (br_of (fun hp => ?_) (fun hp => ?_))
    · refine he a List.mem_cons_self hp _ _ (comp_enc E enc h p as _ _ hE (fun b hb => ht b (List.mem_cons_of_mem _ hb)) (fun b hb => he b (List.mem_cons_of_mem _ hb)) fun s => ?_)
      have := hQ s
      rw [List.filter_cons_of_pos hp, List.map_cons] at this
      rw [List.append_assoc]
      exact this
    · refine comp_enc E enc h p as _ _ hE (fun b hb => ht b (List.mem_cons_of_mem _ hb)) (fun b hb => he b (List.mem_cons_of_mem _ hb)) fun s => ?_
      have := hQ s
      rw [List.filter_cons_of_neg (by rw [hp]; exact Bool.false_ne_true)] at this
      exact this
theorem comp_all {α : Type} {v : Nat} {e : W D} {Q : List D → PEnv → Prop} (E : Option Sl → PEnv) (enc h : α → D) (as : List α) (s0 : Option Sl) (acc : List D) (hE : ∀ s x, (wipeE (E s) [v]).set v (some (.d x)) = E (some (.d x)))
    (he : ∀ a ∈ as, ∀ (K : D → PEnv → Prop) ex, K (h a) (E (some (.d (enc a)))) → e (E (some (.d (enc a)))) K ex) (hQ : ∀ s, Q (acc ++ as.map h) (E s)) : compW (gNm v) (W.ret true) e [v] Q (as.map enc) (E s0) acc :=
  comp_enc E enc h (fun _ => true) as s0 acc hE (fun a ha K ex k => k) (fun a ha _ => he a ha) fun s => by
    rw [List.filter_eq_self.mpr fun _ _ => rfl]
    exact hQ s
theorem comp_pair {α : Type} {v u : Nat} {t : W Bool} {e : W D} {Q : List D → PEnv → Prop} (E : Option Sl → Option Sl → PEnv) (e1 e2 h : α → D) (p : α → Bool) : ∀ (as : List α) (s0 s1 : Option Sl) (acc : List D), (∀ s z x y, ((wipeE (E s z) [v, u]).set v (some (.d x))).set u (some (.d y)) = E (some (.d x)) (some (.d y))) →
    (∀ a ∈ as, ∀ (K : Bool → PEnv → Prop) ex, K (p a) (E (some (.d (e1 a))) (some (.d (e2 a)))) → t (E (some (.d (e1 a))) (some (.d (e2 a)))) K ex) → (∀ a ∈ as, p a = true → ∀ (K : D → PEnv → Prop) ex, K (h a) (E (some (.d (e1 a))) (some (.d (e2 a)))) → e (E (some (.d (e1 a))) (some (.d (e2 a)))) K ex) →
    (∀ s z, Q (acc ++ ((as.filter p).map h)) (E s z)) → compW (gTupP (gsCons (gNm v) (gsCons (gNm u) gsNil)) 2) t e [v, u] Q (as.map fun a => .tup [e1 a, e2 a]) (E s0 s1) acc
  | [], s0, s1, acc, _, _, _, hQ => by
    have := hQ s0 s1
    simpa [compW] using this
  | a :: as, s0, s1, acc, hE, ht, he, hQ => by
    refine ⟨rfl, ?_⟩
    show t (((wipeE (E s0 s1) [v, u]).set v (some (.d (e1 a)))).set u (some (.d (e2 a)))) _ _
    rw [hE]
    refine ht a List.mem_cons_self _ _ (br_of (fun hp => ?_) (fun hp => ?_))
    · refine he a List.mem_cons_self hp _ _ (comp_pair E e1 e2 h p as _ _ _ hE (fun b hb => ht b (List.mem_cons_of_mem _ hb)) (fun b hb => he b (List.mem_cons_of_mem _ hb)) fun s z => ?_)
      have := hQ s z
      rw [List.filter_cons_of_pos hp, List.map_cons] at this
      rw [List.append_assoc]
      exact this
    · refine comp_pair E e1 e2 h p as _ _ _ hE (fun b hb => ht b (List.mem_cons_of_mem _ hb)) (fun b hb => he b (List.mem_cons_of_mem _ hb)) fun s z => ?_
      have := hQ s z
      rw [List.filter_cons_of_neg (by rw [hp]; exact Bool.false_ne_true)] at this
      exact this
theorem cut_to {α : Type} (xs : List α) (k : Nat) : Pd.cutD xs none (some (k : Int)) = xs.take k := by
  unfold Pd.cutD
  rw [HT.sIx_nat, HT.sIx_none, Nat.sub_zero, List.drop_zero]
  by_cases h : k ≤ xs.length
  · rw [Nat.min_eq_left h]
  · rw [Nat.min_eq_right (by omega), List.take_of_length_le (Nat.le_refl _), List.take_of_length_le (by omega)]
theorem upTo_nil {a b : Int} (h : b ≤ a) : Pd.upTo a b = [] := by
  unfold Pd.upTo
  have : (b - a).toNat = 0 := by omega
  rw [this]
  rfl
theorem upTo_cons {a b : Int} (h : a < b) : Pd.upTo a b = .int a :: Pd.upTo (a + 1) b := by
  unfold Pd.upTo
  have e : (b - a).toNat = (b - (a + 1)).toNat + 1 := by omega
  rw [e, List.range_succ_eq_map, List.map_cons, List.map_map]
  refine List.cons_eq_cons.mpr ⟨?_, List.map_congr_left fun k _ => ?_⟩
  · simp
  · show D.int (a + ((k + 1 : Nat) : Int)) = D.int (a + 1 + (k : Int))
    have : a + ((k + 1 : Nat) : Int) = a + 1 + (k : Int) := by omega
    rw [this]
end Pd

namespace Zn
open PySem PySem.Spec PyProof.Rows L2
def SqK (K : PySem.W.Frag) (t : Bool) (H : Hp) (a : Addr) (xs : List V) : Prop := match t with
  | false => SqL K H a xs
  | true => SqT K H a xs
def ItK (h : Heap) (t : Bool) (it c : Nat) (k : Nat) : Prop := match t with
  | false => h.IsListIter it c k
  | true => h.IsTupleIter it c k
section
variable {X : Cx} {pins : List (Addr × Obj)} {σ : L2.St} {H : Hp} {s : Shared}
end
end Zn
namespace Zn
open PySem PySem.Spec PyProof.Rows L2
end Zn
namespace Pd
open PySem PySem.Spec PyProof.Rows L2 LamX Zn
section
variable {X : Cx} {T : List (Addr × Str)} {E : XK} {k : Nat}
end
end Pd

namespace Zn
open PySem
section
variable {prog : Program} {w : World} {A : Around} {E : Value → Shared → Prop} {s : Shared}
end
end Zn

namespace Zn
open PySem PySem.Spec PyProof.Rows L2
section
variable {prog : Program} {w : World} {A : Around} {E : Value → Shared → Prop} {s : Shared}
end
inductive RefsK (K : PySem.W.Frag) (H : Hp) : List (Nat × Bool) → List (List V) → Prop
  | nil : RefsK K H [] []
  | cons {a : Nat} {t : Bool} {xs : List V} {as : List (Nat × Bool)} {xss : List (List V)} : SqK K t H a xs → RefsK K H as xss → RefsK K H ((a, t) :: as) (xs :: xss)
theorem RefsK.length {K : PySem.W.Frag} {H : Hp} : ∀ {as : List (Nat × Bool)} {xss : List (List V)}, RefsK K H as xss → as.length = xss.length
  | _, _, .nil => rfl
  | _, _, .cons _ t => congrArg (· + 1) t.length
section
variable {X : Cx} {pins : List (Addr × Obj)} {σ : L2.St} {H : Hp} {s : Shared}
end
structure TnN (b : Nat) (as : List (Nat × Bool)) (i : Nat) (h : Heap) : Prop where
  ti : IsTupN h (b + as.length) (itsN b as.length)
  it : ∀ (j a : Nat) (t : Bool), as[j]? = some (a, t) → ItK h t (b + j) a i
  ot : ∃ os : Array Value, IsTupN h (b + as.length + 1) os ∧ os.size = as.length
  z : IsZ h (b + as.length + 2) (b + as.length) (b + as.length + 1) .none false ∨ ∃ (T : Nat) (f : Bool), IsZ h (b + as.length + 2) (b + as.length) (b + as.length + 1) (rawInt T) f ∧ b + as.length + 2 < T
theorem TnN.lt {b i : Nat} {as : List (Nat × Bool)} {h : Heap} (st : TnN b as i h) : b + as.length + 2 < h.objs.size := by
  rcases st.z with h | ⟨T, f, h, _⟩
  · exact Heap.lt_size h
  · exact Heap.lt_size h
section
variable {prog : Program} {w : World} {A : Around} {E : Value → Shared → Prop} {s : Shared}
end
end Zn

namespace Zn
open PySem PySem.Spec PyProof.Rows L2
end Zn
namespace Pd
open PySem PySem.Spec PyProof.Rows L2 LamX Zn
section
variable {X : Cx} {T : List (Addr × Str)} {E : XK} {k : Nat}
end
end Pd

namespace Zn
open PySem
section
variable {prog : Program} {w : World}
end
end Zn

namespace Zn
open PySem PySem.Spec PyProof.Rows L2
section
variable {X : Cx}
end
end Zn

namespace Pd
open PySem PySem.Spec PyProof.Rows L2 LamX Zn
section
variable {X : Cx} {T : List (Addr × Str)} {E : XK} {k : Nat}
end
end Pd

namespace Pd
open PySem PySem.Spec PyProof.Rows L2 LamX
section
variable {X : Cx} {T : List (Addr × Str)} {E : XK} {k : Nat}
def dIsC (Cs : List Str) (C : Str) : D → Option D
  | .ins C' _ => if C' ∈ Cs then some (.bl (decide (C' = C))) else none
  | x => (dTy x).map fun _ => .bl false
end
section
variable {P : Program} {w : World} {K : PySem.W.Frag} {mg : Str → Option Value} {base : Heap} {T : List (Addr × Str)}
end
end Pd

namespace Pd
open PySem PySem.Spec PyProof.Rows L2 LamX
section
variable {X : Cx} {T : List (Addr × Str)} {E : XK} {k : Nat}
end
end Pd

namespace Pd
open PySem PySem.Spec PyProof.Rows L2 LamX
section
variable {X : Cx} {T : List (Addr × Str)} {E : XK} {k : Nat} {tg : Expr}
end
end Pd

namespace Zs
open PySem PySem.Spec PyProof.Rows L2
section
variable {P : Program} {w : World} {A : Around} {E : Value → Shared → Prop} {s : Shared}
end
end Zs
namespace Pd
open PySem PySem.Spec PyProof.Rows L2 LamX
section
variable {X : Cx} {T : List (Addr × Str)} {E : XK} {k : Nat}
end
end Pd

namespace Zs
open PySem PySem.Spec PyProof.Rows L2
section
variable {P : Program} {w : World} {A : Around} {E : Value → Shared → Prop} {s : Shared}
end
end Zs
namespace Pd
open PySem PySem.Spec PyProof.Rows L2 LamX
section
variable {X : Cx} {T : List (Addr × Str)} {E : XK} {k : Nat}
end
end Pd

namespace Pd
open PySem PySem.Spec PyProof.Rows L2 LamX
end Pd

namespace Zs
open PySem PySem.Spec PyProof.Rows L2
section
variable {P : Program} {w : World} {A : Around} {E : Value → Shared → Prop} {s : Shared}
end
end Zs
namespace Pd
open PySem PySem.Spec PyProof.Rows L2 LamX
section
variable {X : Cx} {T : List (Addr × Str)} {E : XK} {k : Nat}
end
end Pd

namespace Zs
open PySem PySem.Spec PyProof.Rows L2
section
variable {P : Program} {w : World} {A : Around} {E : Value → Shared → Prop} {s : Shared}
end
end Zs
namespace Pd
open PySem PySem.Spec PyProof.Rows L2 LamX
section
variable {X : Cx} {T : List (Addr × Str)} {E : XK} {k : Nat}
end
end Pd

namespace Pd
open PySem PySem.Spec PyProof.Rows L2 LamX
section
variable {K : PySem.W.Frag} {T : List (Addr × Str)} {c : Ctx} {wd wd' : Wd} {env env' : PEnv} {σ σ' : L2.St} {H H' : Hp}
theorem Rel.putDct (r : Rel K T c wd env σ H) {i : Nat} {lk lk2 : Option Obj} {ks ls : DK D} {p : Addr} {us : DK V} (e : env[i]? = some (some (.dct lk ks))) (hp : σ[i]? = some (some (V.ref p))) (en : us.same ls) (er : Reps K wd us.vals ls.vals) (hz : Sized (lkO lk2 us.cell)) :
    Rel K T c wd (env.set i (some (.dct lk2 ls))) σ (upd H p (lkO lk2 us.cell)) := by
  obtain ⟨p', ws', h1, h2, h3, h4, h5, h6⟩ := r.ext.dct i lk ks e
  rw [h1] at hp
  cases hp
  have hil : i < env.length := (List.getElem?_eq_some_iff.mp e).1
  have stay : ∀ {l : Nat} {s : Sl}, (env.set i (some (.dct lk2 ls)))[l]? = some (some s) → (∀ k q, s ≠ .dct k q) → env[l]? = some (some s) := fun {l s} q n => by
    rcases get_set q with ⟨rfl, q, _⟩ | ⟨_, q⟩
    · cases q
      exact absurd rfl (n _ _)
    · exact q
  have ownS : ∀ {l : Nat} {zs : List D}, (env.set i (some (.dct lk2 ls)))[l]? = some (some (.own zs)) → env[l]? = some (some (.own zs)) := fun {l zs} q => stay q fun _ _ z => nomatch z
  have celS : ∀ {l : Nat} {cs : List (Addr × List D)}, (env.set i (some (.dct lk2 ls)))[l]? = some (some (.cels cs)) → env[l]? = some (some (.cels cs)) := fun {l zs} q => stay q fun _ _ z => nomatch z
  have objS : ∀ {l : Nat} {p0 : Addr} {C : Str} {fs : List (Str × D)}, (env.set i (some (.dct lk2 ls)))[l]? = some (some (.obj p0 C fs)) → env[l]? = some (some (.obj p0 C fs)) := fun {l p0 C fs} q => stay q fun _ _ z => nomatch z
  have dctS : ∀ {l : Nat} {k : Option Obj} {q' : DK D}, (env.set i (some (.dct lk2 ls)))[l]? = some (some (.dct k q')) → (i = l ∧ k = lk2 ∧ q' = ls) ∨ (i ≠ l ∧ env[l]? = some (some (.dct k q'))) := fun {l k q'} q => by
    rcases get_set q with ⟨rfl, q, _⟩ | ⟨ne, q⟩
    · cases q
      exact .inl ⟨rfl, rfl, rfl⟩
    · exact .inr ⟨ne, q⟩
  have old : ∀ {l : Nat} {k : Option Obj} {q' : DK D}, (env.set i (some (.dct lk2 ls)))[l]? = some (some (.dct k q')) → ∃ k0 q0, env[l]? = some (some (.dct k0 q0)) := fun {l k q'} q => by
    rcases dctS q with ⟨rfl, _⟩ | ⟨_, q⟩
    · exact ⟨_, _, e⟩
    · exact ⟨_, _, q⟩
  have nl : ∀ {a : Addr} {vs : List V}, H a = some (.lst vs) → a ≠ p := fun {a vs} q z => by
    rw [z, h2] at q
    exact lk_lst q.symm
  have hb : p ∉ wd.B := r.good.dctB h2
  refine ⟨r.ord, ⟨fun a o q => ?_, r.good.ntb, fun b hb' => ?_, fun q hq => ?_, siz_upd r.good.siz hz⟩, ⟨fun a o q n t => ?_, fun a q => ?_⟩, by rw [List.length_set]; exact r.len, fun l x q => r.dat l x (stay q fun _ _ z => nomatch z), fun l zs q => ?_, fun l m as bs q e1 e2 e3 e4 => r.sep l m as bs q (ownS e1) (ownS e2) e3 e4, fun q hq => ?_,
    ⟨fun l p1 C' fs' q => ?_, fun l m p1 p2 C1 C2 f1 f2 e1 e2 => r.ext.ob1 l m p1 p2 C1 C2 f1 f2 (objS e1) (objS e2), fun l cs q s hs => ?_, fun l cs q => r.ext.cnd l cs (celS q), fun l m cs ds e1 e2 => r.ext.ce1 l m cs ds (celS e1) (celS e2), fun l k q' q => ?_, fun l m k k' ks1 ls1 p1 e1 e2 e3 e4 => ?_⟩⟩
  · rw [upd_ne (fun z => by rw [z, h3] at q; cases q)]
    exact r.good.sub a o q
  · obtain ⟨z1, g, s, c', z2, z3⟩ := r.good.box b hb'
    exact ⟨z1, g, s, c', by rw [upd_ne (nl z2)]; exact z2, z3⟩
  · obtain ⟨ps, z1, z2, z3⟩ := r.good.tab q hq
    refine ⟨ps, ?_, z2, fun pos cv hc => ?_⟩
    · rw [upd_ne (fun z => by rw [z, h2] at z1; cases lk <;> cases ws' <;> cases z1)]
      exact z1
    · obtain ⟨a, y1, y2⟩ := z3 pos cv hc
      refine ⟨a, y1, ?_⟩
      rw [upd_ne (fun z => by rw [z, h2] at y2; cases lk <;> cases ws' <;> cases y2)]
      exact y2
  · rw [upd_ne (show a ≠ p from fun z => h4.no (by rw [← z]; exact q) t)]
    exact r.keep.st a o q n t
  · by_cases ha : a = p
    · subst ha
      exact h4
    · exact r.keep.dm a (q.upd ha)
  · obtain ⟨a, vs, z1, z2, z3⟩ := r.own l zs (ownS q)
    exact ⟨a, vs, z1, by rw [upd_ne (nl z2)]; exact z2, z3⟩
  · obtain ⟨z1, z2, z3, z4⟩ := r.pin q hq
    exact ⟨by rw [upd_ne (nl z1)]; exact z1, z2, z3, fun l zs e => z4.o l zs (ownS e), fun l cs e => z4.c l cs (celS e)⟩
  · obtain ⟨dx, us', z1, z2, z3⟩ := r.ext.obj l p1 C' fs' (objS q)
    exact ⟨dx, us', z1, by rw [upd_ne (fun z => by rw [z, h2] at z2; exact lk_ins z2.symm)]; exact z2, z3⟩
  · obtain ⟨⟨vs, z1, z2⟩, z3, z4, z5, z6⟩ := r.ext.cel l cs (celS q) s hs
    exact ⟨⟨vs, by rw [upd_ne (nl z1)]; exact z1, z2⟩, z3, z4, z5, fun m zs e => z6 m zs (ownS e)⟩
  · rcases dctS q with ⟨rfl, rfl, rfl⟩ | ⟨ne, q⟩
    · exact ⟨p, us, h1, upd_same, h3, h4, en, er⟩
    · obtain ⟨p0, ws, z1, z2, z3⟩ := r.ext.dct l k q' q
      refine ⟨p0, ws, z1, ?_, z3⟩
      rw [upd_ne (show p0 ≠ p from fun z => ne (r.ext.dc1 i l lk k ks q' p0 e q (by rw [z]; exact h1) z1))]
      exact z2
  · obtain ⟨k0, q0, f1⟩ := old e1
    obtain ⟨k1, q1, f2⟩ := old e2
    exact r.ext.dc1 l m k0 k1 q0 q1 p1 f1 f2 e3 e4
theorem Rel.newDct (r : Rel K T c wd env σ H) {i : Nat} {p : Addr} {us : DK V} {ls : DK D} (hp : H p = none) (en : us.same ls) (er : Reps K wd us.vals ls.vals) (hz : Sized us.cell) :
    Rel K T c wd (env.set i (some (.dct none ls))) (σ.set i (some (.ref p))) (upd H p us.cell) := by
  have k : Keep wd H (upd H p us.cell) := Keep.add hp
  have hm := r.good.mnone hp
  have gd : Good T wd (upd H p us.cell) := by
    refine ⟨fun a o e => ?_, r.good.ntb, fun b hb => ?_, r.good.tab.ext fun b u e => ?_, siz_upd r.good.siz hz⟩
    · have := r.good.sub a o e
      rw [upd_ne (ne_of_none this hp)]
      exact this
    · obtain ⟨h1, g, s, c', h2, h3⟩ := r.good.box b hb
      exact ⟨h1, g, s, c', by rw [upd_ne (ne_of_none h2 hp)]; exact h2, h3⟩
    · rw [upd_ne (ne_of_none e hp)]
      exact e
  have r2 : Rel K T c wd env σ (upd H p us.cell) := r.go (Ord.refl _ _) gd k
  have fresh : ∀ {j : Nat} {lk : Option Obj} {ks : DK D}, env[j]? = some (some (.dct lk ks)) → σ[j]? ≠ some (some (.ref p)) := fun {j lk ks} e z => by
    obtain ⟨q, ws, h1, h2, _⟩ := r.ext.dct j lk ks e
    rw [h1] at z
    cases z
    rw [hp] at h2
    cases h2
  have stay : ∀ {l : Nat} {s : Sl}, (env.set i (some (.dct none ls)))[l]? = some (some s) → (∀ k q, s ≠ .dct k q) → i ≠ l ∧ env[l]? = some (some s) := fun {l s} q n => by
    rcases get_set q with ⟨rfl, q, _⟩ | ⟨ne, q⟩
    · cases q
      exact absurd rfl (n _ _)
    · exact ⟨ne, q⟩
  have x2 := r2.ext
  refine ⟨r2.ord, r2.good, r2.keep, by simp [r2.len], fun j y e => ?_, fun j ys e => ?_, fun j l as bs q e1 e2 e3 e4 => ?_, fun q hq => ?_, ⟨fun l p1 C' fs' q => ?_, fun l m p1 p2 C1 C2 f1 f2 e1 e2 => ?_, fun l cs q s hs => ?_, fun l cs q => ?_, fun l m cs ds e1 e2 => ?_, fun l k q' q => ?_, fun l m k k' ks1 ls1 p1 e1 e2 e3 e4 => ?_⟩⟩
  · obtain ⟨ne, e⟩ := stay e fun _ _ z => nomatch z
    obtain ⟨w, h1, h2⟩ := r2.dat j y e
    exact ⟨w, by rw [List.getElem?_set_ne ne]; exact h1, h2⟩
  · obtain ⟨ne, e⟩ := stay e fun _ _ z => nomatch z
    obtain ⟨q, us, h1, h2⟩ := r2.own j ys e
    exact ⟨q, us, by rw [List.getElem?_set_ne ne]; exact h1, h2⟩
  · obtain ⟨n1, e1⟩ := stay e1 fun _ _ z => nomatch z
    obtain ⟨n2, e2⟩ := stay e2 fun _ _ z => nomatch z
    rw [List.getElem?_set_ne n1] at e3
    rw [List.getElem?_set_ne n2] at e4
    exact r.sep j l as bs q e1 e2 e3 e4
  · obtain ⟨z1, z2, z3, z4⟩ := r2.pin q hq
    refine ⟨z1, z2, z3, fun j ys e => ?_, fun l cs e => z4.c l cs (stay e fun _ _ z => nomatch z).2⟩
    obtain ⟨ne, e⟩ := stay e fun _ _ z => nomatch z
    rw [List.getElem?_set_ne ne]
    exact z4.o j ys e
  · obtain ⟨ne, q⟩ := stay q fun _ _ z => nomatch z
    obtain ⟨dx, us', z1, z2⟩ := x2.obj l p1 C' fs' q
    exact ⟨dx, us', by rw [List.getElem?_set_ne ne]; exact z1, z2⟩
  · exact x2.ob1 l m p1 p2 C1 C2 f1 f2 (stay e1 fun _ _ z => nomatch z).2 (stay e2 fun _ _ z => nomatch z).2
  · obtain ⟨ne, q⟩ := stay q fun _ _ z => nomatch z
    obtain ⟨h1, h3, h4, h5, h6⟩ := x2.cel l cs q s hs
    refine ⟨h1, h3, h4, h5, fun j ys e => ?_⟩
    obtain ⟨ne2, e⟩ := stay e fun _ _ z => nomatch z
    rw [List.getElem?_set_ne ne2]
    exact h6 j ys e
  · exact x2.cnd l cs (stay q fun _ _ z => nomatch z).2
  · exact x2.ce1 l m cs ds (stay e1 fun _ _ z => nomatch z).2 (stay e2 fun _ _ z => nomatch z).2
  · rcases get_set q with ⟨rfl, q, hl⟩ | ⟨ne, q⟩
    · cases q
      rw [r.len] at hl
      exact ⟨p, us, List.getElem?_set_self hl, upd_same, hm, r.keep.dm p (Nt.of hp), en, er⟩
    · obtain ⟨p0, ws, z1, z2⟩ := x2.dct l k q' q
      exact ⟨p0, ws, by rw [List.getElem?_set_ne ne]; exact z1, z2⟩
  · rcases get_set e1 with ⟨rfl, f1, hl⟩ | ⟨n1, f1⟩
    · rcases get_set e2 with ⟨rfl, f2, _⟩ | ⟨n2, f2⟩
      · rfl
      · rw [r.len] at hl
        rw [List.getElem?_set_self hl] at e3
        cases e3
        rw [List.getElem?_set_ne n2] at e4
        exact absurd e4 (fresh f2)
    · rcases get_set e2 with ⟨rfl, f2, hl⟩ | ⟨n2, f2⟩
      · rw [r.len] at hl
        rw [List.getElem?_set_self hl] at e4
        cases e4
        rw [List.getElem?_set_ne n1] at e3
        exact absurd e3 (fresh f1)
      · rw [List.getElem?_set_ne n1] at e3
        rw [List.getElem?_set_ne n2] at e4
        exact r.ext.dc1 l m k k' ks1 ls1 p1 f1 f2 e3 e4
end
end Pd

namespace Pd
open PySem PySem.Spec PyProof.Rows L2 LamX
theorem dct_t {K : PySem.W.Frag} {wd : Wd} {c : Ctx} {σ : L2.St} {H : Hp} {i : Nat} {lk : Option Obj} {ks : List (List Key × D)} (h : ∃ (p : Addr) (vs : DK V), σ[i]? = some (some (V.ref p)) ∧ H p = some (lkO lk vs.cell) ∧ wd.M p = none ∧ Nt c.H p ∧ vs.same (.t ks) ∧ Reps K wd vs.vals (DK.vals (.t ks))) :
    ∃ (p : Addr) (vs : List (List Key × V)), σ[i]? = some (some (V.ref p)) ∧ H p = some (lkO lk (.dT vs)) ∧ wd.M p = none ∧ Nt c.H p ∧ vs.map (·.1) = ks.map (·.1) ∧ Reps K wd (vs.map (·.2)) (ks.map (·.2)) := by
  obtain ⟨p, vs, h1, h2, h3, h4, h5, h6⟩ := h
  cases vs with
  | s vs => exact h5.elim
  | t vs => exact ⟨p, vs, h1, h2, h3, h4, h5, h6⟩
section
variable {K : PySem.W.Frag} {wd : Wd}
theorem Reps.snoc {vs : List V} {ds : List D} {v : V} {d : D} (h : Reps K wd vs ds) (r : Rep K wd v d) : Reps K wd (vs ++ [v]) (ds ++ [d]) := h.append (.cons r .nil)
end
section
variable {X : Cx} {T : List (Addr × Str)} {E : XK} {k : Nat} {x : Str} {y e : Expr} {p1 p2 pos apos : Pos}
end
end Pd

namespace Pd
open PySem PySem.Spec PyProof.Rows L2 LamX
section
variable {J : It} {n : Nat} {G : Hp → Prop} {Y : Nat → Hp → V → Hp → Prop}
end
section
variable {K : PySem.W.Frag} {T : List (Addr × Str)} {c : Ctx} {wd wd' : Wd} {env env' : PEnv} {σ σ' : L2.St} {H H' : Hp}
end
end Pd

namespace Pd
open PySem PySem.Spec PyProof.Rows L2 LamX
section
variable {X : Cx} {T : List (Addr × Str)} {E : XK} {k : Nat} {tg kx vx iter : Expr} {ifs : List Expr} {scope : Scope} {pos spos py : Pos}
end
end Pd

namespace Pd
open PySem PySem.Spec PyProof.Rows L2 LamX
def kD : Key → D
  | .inl n => .int n
  | .inr s => .str s
theorem rep_key {K : PySem.W.Frag} {wd : Wd} : ∀ k : Key, Rep K wd (kV k) (kD k)
  | .inl n => .int n
  | .inr s => .str s
section
variable {X : Cx} {T : List (Addr × Str)} {E : XK} {k : Nat}
end
end Pd

namespace Pd
open PySem PySem.Spec PyProof.Rows L2 LamX
section
variable {X : Cx} {T : List (Addr × Str)} {E : XK} {k : Nat}
end
end Pd

namespace Pd
open PySem PySem.Spec PyProof.Rows L2 LamX
section
variable {X : Cx} {T : List (Addr × Str)} {E : XK} {k : Nat}
section
variable {o e : Expr} {apos pos : Pos}
end
section
variable {x : Str} {p1 pos : Pos}
end
end
end Pd

namespace Pd
open PySem PySem.Spec PyProof.Rows L2 LamX
section
variable {X : Cx} {T : List (Addr × Str)} {E : XK} {k : Nat}
end
end Pd

namespace Pd
open PySem PySem.Spec PyProof.Rows L2 LamX
section
variable {X : Cx} {T : List (Addr × Str)} {E : XK} {k : Nat}
end
end Pd

namespace Zm
open PySem PySem.Spec PyProof.Rows L2 PySem.SeqAt PySem.W
open AutoSeq1 (wpAny_loadPart')
open MeetsSeq MeetsSeq2 MeetsSeq3 SeqRoads2
section
variable {prog : Program} {w : World} {A : Around} {E : Value → Shared → Prop} {s : Shared}
end
end Zm

namespace Zm
open PySem PySem.Spec PyProof.Rows L2 PySem.SeqAt PySem.W
open AutoSeq1 (wpAny_loadPart')
section
variable {prog : Program} {w : World} {A : Around} {E : Value → Shared → Prop} {s : Shared}
end
end Zm
namespace Pd
open PySem PySem.Spec PyProof.Rows L2 LamX
abbrev NoStr (K : PySem.W.Frag) (C : Str) : Prop := PySem.W.subIn K (.ref (He.ga K C)) (.type "str") = some false
section
variable {X : Cx} {T : List (Addr × Str)} {E : XK} {k j : Nat}
def EqOks (X : Cx) (T : List (Addr × Str)) (k : Nat) : List (Str × Fn) → Prop
  | [] => True
  | (C, F) :: r => (∃ j, j < k ∧ MethOk X.prog X.w X.K X.mg X.base T C "__eq__" j F ∧ NoStr X.K C) ∧ EqOks X T k r
theorem EqOks.get {C : Str} {F : Fn} : ∀ {r : List (Str × Fn)}, EqOks X T k r → r.lookup C = some F → ∃ j, j < k ∧ MethOk X.prog X.w X.K X.mg X.base T C "__eq__" j F ∧ NoStr X.K C
  | (C', F') :: r, ⟨h, e⟩, q => by
    by_cases c : (C == C') = true
    · have : List.lookup C ((C', F') :: r) = some F' := by simp only [List.lookup, c]
      rw [this] at q
      cases q
      rw [eq_of_beq c]
      exact h
    · have c' : (C == C') = false := by simpa using c
      have : List.lookup C ((C', F') :: r) = r.lookup C := by simp only [List.lookup, c']
      rw [this] at q
      exact EqOks.get e q
end
end Pd

namespace Zm
open PySem PySem.Spec PyProof.Rows L2 PySem.W
open Builtin
section
variable {prog : Program} {w : World} {A : Around} {E : Value → Shared → Prop} {s : Shared} {K : Frag} {x C L f : Addr} {h₀ : Heap} {m : Str → Option Value} {ox : Obj} {od : Option Obj} {b tb : Value}
end
end Zm

namespace Pd
open PySem PySem.Spec PyProof.Rows L2 LamX
section
variable {X : Cx} {T : List (Addr × Str)} {E : XK} {k : Nat}
end
end Pd

namespace Pd
open PySem PySem.Spec PyProof.Rows L2 LamX
section
variable {X : Cx} {T : List (Addr × Str)} {E : XK} {k : Nat}
end
end Pd

namespace Zk
open PySem PySem.Spec PyProof.Rows L2 LamX NdefX
abbrev Grow (h h' : Heap) : Prop := ∀ b o, h.get? b = some o → h'.get? b = some o
theorem Grow.then {a b c : Heap} (x : Grow a b) (y : Grow b c) : Grow a c := fun p o e => y p o (x p o e)
section
variable {P : Program} {w : World} {A : Around} {env : Env} {h0 : Heap}
def GivesI (P : Program) (w : World) (A : Around) (env : Env) (h0 : Heap) (e : Expr) (i : Int) : Prop :=
  ∀ (s : Shared) (Q : Value → Shared → Prop) (E : Value → Shared → Prop), Grow h0 s.heap → (∀ t h' tk, Grow s.heap h' → Q (.int i t) { s with heap := h', toks := tk }) → wpAny (model P w) A (eval e env) Q E s
theorem ns_keep {h h' : Heap} {a : Addr} {m : Str → Option Value} (n : h.Ns a m) (g : Grow h h') : h'.Ns a m := by
  obtain ⟨o, es, ep, at_, rest⟩ := n
  exact ⟨o, es, ep, g _ _ at_, rest⟩
theorem gives_par {x : Str} {pos : Pos} {m : Str → Option Value} {i : Int} {t : Tok} (kind : env.scope.kind = .function) (own : env.scope.names.lookup x = some .local) (ns : h0.Ns env.locals m) (val : m x = some (.int i t)) (hd : (x == ("__debug__" : Str)) = false) : GivesI P w A env h0 (.Name x pos) i :=
  fun s Q E g q => wpAny_Name (wpAny_loadName_local kind own (ns_keep ns g) val (q t s.heap s.toks fun _ _ z => z)) hd
theorem gives_neg {e : Expr} {pos : Pos} {i : Int} (h : GivesI P w A env h0 e i) : GivesI P w A env h0 (.UnaryOp .USub e pos) (-i) :=
  fun s Q E g q => UnaryOp_ (h s _ E g fun t h' tk k => neg_int (q _ h' (tk + 1) k))
theorem gives_ix {y : Str} {e : Expr} {p1 pos : Pos} {c a : Addr} {its : Array Value} {ns : List Int} {k : Nat} {z : Int} (kind : env.scope.kind = .function) (free : env.scope.names.lookup y = some .free) (cell : env.cells.lookup y = some c) (held : h0.IsCell c (some (.ref a)))
    (tup : IsTup h0 a its) (isint : IntsAre its.toList ns) (small : ns.length < 2 ^ 60) (h : GivesI P w A env h0 e (k : Int)) (at_ : ns[k]? = some z) (plain : PlainIx e) (hd : (y == ("__debug__" : Str)) = false) (hcd : (y == ("__classdict__" : Str)) = false) : GivesI P w A env h0 (.Subscript (.Name y p1) e pos) z := by
  intro s Q E g q
  have size : its.size = ns.length := by
    rw [← IntsAre.length isint, Array.length_toList]
  have lt := (List.getElem?_eq_some_iff.mp at_).1
  obtain ⟨t0, ht⟩ := isint.get k z at_
  apply Subscript_
  apply wpAny_Name _ hd
  apply wpAny_loadName_free kind free cell (held.keeps g) _ hcd
  apply h s _ E g
  intro t h' tk grow
  have here : IsTup h' a its := by
    obtain ⟨o, ho, rest⟩ := tup
    exact ⟨o, grow _ _ (g _ _ ho), rest⟩
  refine subscriptTail_builtinR (x := .int z t0) here.typeIs slot_tuple_getitem.lookup (getItem_tuple (j := k) (Q := fun r s' => r = .int z t0 ∧ Q r s') here (by omega) (by omega) ?_ (by simpa using ht) ⟨rfl, q t0 h' tk grow⟩) (plain _ _)
  rw [seqIndex_of (by omega) (by omega), Int.toNat_natCast]
inductive Items (P : Program) (w : World) (A : Around) (env : Env) (h0 : Heap) : List Expr → List Int → Prop
  | nil : Items P w A env h0 [] []
  | cons {e : Expr} {es : List Expr} {i : Int} {is : List Int} : GivesI P w A env h0 e i → starEach (e :: es) env = (false, eval e env) :: starEach es env → Items P w A env h0 es is → Items P w A env h0 (e :: es) (i :: is)
theorem items_run {pos : Pos} {es : List Expr} {is : List Int} (h : Items P w A env h0 es is) : ∀ (s : Shared) (Q : List Value → Shared → Prop) (E : Value → Shared → Prop), Grow h0 s.heap → (∀ us h' tk, IntsAre us is → Grow s.heap h' → Q us { s with heap := h', toks := tk }) →
    wpAny (model P w) A (spliced (backTo pos (starEach es env))) Q E s := by
  induction h with
  | nil => exact fun s Q E g q => Calls.spliced_nil (q [] s.heap s.toks .nil fun _ _ z => z)
  | cons one written more ih =>
    intro s Q E g q
    rw [written]
    apply Calls.spliced_cons
    apply one s _ E g
    intro t h' tk grow
    apply ih { s with heap := h', toks := tk } _ E (g.then grow)
    intro us h2 tk2 isint grow2
    exact q _ h2 tk2 (.cons _ t isint) (grow.then grow2)
theorem reads_ints {h : Heap} : ∀ {us : List Value} {is : List Int}, IntsAre us is → ReadsAll h us (is.map PyData.int) []
  | _, _, .nil => .nil
  | _, _, .cons k t r => by
    have := ReadsAll.cons (.int k t) (reads_ints (h := h) r)
    exact this
theorem key_tuple {es : List Expr} {is : List Int} {x1} {pos : Pos} (h : Items P w A env h0 es is) (few : is.length ≤ 1000000) (s : Shared) (E : Value → Shared → Prop) (g : Grow h0 s.heap) : wpAny (model P w) A (eval (.Tuple es x1 pos) env) (PySem.W.KeyPure (.tuple (is.map PyData.int)) s) E s := by
  apply wpAny_Tuple_spliced
  apply items_run h s _ E g
  intro us h' tk isint grow
  have len := IntsAre.length isint
  refine ⟨by rw [len, sizeLine_eq]; omega, h'.push { cls := .type "tuple", data := .seq us.toArray }, tk, rfl, fun b o e => Heap.get?_push_of_some _ (grow b o e), ?_⟩
  exact .tuple (Heap.get?_push_size _ rfl) rfl rfl (reads_ints isint)
end
section
variable {P : Program} {w : World} {A : Around} {s : Shared}
theorem key_call {f : Addr} {v : Value} {q x : Str} {params : Arguments} {body : Expr} {scope : Scope} {cl : List (Str × Addr)} {pm ctv : Value} {c' : Addr} {k : PyData} (made : s.heap.get? f = some (PySem.W.kla_obj "<lambda>" q params body scope cl pm c' ctv)) (room : A.depth < recursionLimit) (free : s.heap.NoLimit) (code : s.heap.CodeRec (.ref c') q)
    (kind : scope.kind = .function) (co : scope.isCoroutine = false) (gen : scope.isGenerator = false) (nocell : ∀ y ∈ scope.names, y.2 ≠ .cell) (par : scope.names.lookup x = some .local) (bind : bindArgs (PySem.W.kla_fn "<lambda>" q params body scope cl pm (.ref c') ctv) ⟨[v], []⟩ = pure [(x, v)])
    (run : ∀ (h1 : Heap) (tk : Nat), Grow s.heap h1 → h1.Ns s.heap.objs.size (fun y => ([(x, v)] : List (Str × Value)).reverse.lookup y) → wpAny (model P w) (A.deeper (PySem.W.envX q scope s.heap.objs.size f (.ref c') cl)) (eval body (PySem.W.envX q scope s.heap.objs.size f (.ref c') cl)) (PySem.W.KeyPure k { s with heap := h1, toks := tk }) (fun _ _ => False) { s with heap := h1, toks := tk }) :
    wpAny (model P w) A (call (.ref f) [v]) (PySem.W.KeyPure k s) (fun _ _ => False) s := by
  have told : codeAny (model P w) A (.call (.ref f) ⟨[v], []⟩) (fun r s' => ∃ u, r = .ok (.ret u) ∧ PySem.W.KeyPure k s u s') s := by
    apply PySem.W.kla_callFunE room made rfl co gen rfl code
    rw [bind]
    apply wpAny_pure
    refine wpAny_newFunctionEnv nocell (fun y hy => ?_) (fun h1 ns same => ⟨free.fresh _ same, ?_⟩) kind
    · rw [List.mem_singleton.mp hy]
      exact par
    · have grow : Grow s.heap h1 := fun b o e => same.extBut b o (Nat.ne_of_lt (Heap.lt_size e)) (Heap.get?_push_of_some _ e)
      apply PySem.W.kla_codeExpr
      refine wpAny_mono (run h1 _ grow ns) (fun u s' kp => ?_) fun _ _ z => z.elim
      obtain ⟨h2, tk2, rfl, grow2, reads⟩ := kp
      exact ⟨u, rfl, h2, tk2, rfl, grow.then grow2, reads⟩
  apply wpAny_call
  apply codeAny_mono told
  rintro _ s' ⟨u, rfl, kp⟩
  exact kp
theorem sorted_rg {r : Addr} {n : Nat} {t u v : Tok} {kw : List (Str × Value)} {Q : Value → Shared → Prop} {E : Value → Shared → Prop} (hh : A.handled = none) (rg : IsRange s.heap r 0 (n : Int) 1 t u v) (few : n ≤ 1000000) (args : argsOk "sorted" ⟨[.ref r], kw⟩)
    (rest : ∀ (h1 : Heap) (tk : Nat) (vs : List Value), Grow s.heap h1 → PySem.W.EachIs (fun v (i : Nat) => ∃ t, v = Value.int (i : Int) t) vs (List.range n) → wpAny (model P w) A.in1 (call (.builtin "list.sort") [.ref h1.objs.size] kw) (fun _ s' => Q (.ref h1.objs.size) s') E { s with heap := h1.push (seqObj "list" vs.toArray 0), toks := tk }) :
    wpAny (model P w) A (call (.builtin "sorted") [.ref r] kw) Q E s := by
  have each : ∀ (m : Nat) (vs : List Value) (k : Nat), vs.length = m → (∀ j v, vs[j]? = some v → ∃ t, v = Value.int ((k + j : Nat) : Int) t) → PySem.W.EachIs (fun v (i : Nat) => ∃ t, v = Value.int (i : Int) t) vs (List.range' k m) := fun m => by
    induction m with
    | zero =>
      intro vs k hl _
      rw [List.length_eq_zero_iff.mp hl]
      exact .nil
    | succ m ih =>
      intro vs k hl h
      cases vs with
      | nil => cases hl
      | cons a vs =>
        refine .cons (h 0 a rfl) (ih vs (k + 1) (by simpa using hl) fun j b hb => ?_)
        have := h (j + 1) b (by simpa using hb)
        rw [show k + 1 + j = k + (j + 1) by omega]
        exact this
  refine call_function_entry_kw kind_sorted plain_sorted entry_sorted args ?_
  unfold Builtin.«sorted»
  apply wpAny_bind (m := checkCount "sorted" 1 1 _)
  apply wpAny_pure
  apply wpAny_bind
  refine collect_range (n := n) (by simpa using hh) rg ?_ ?_ (by omega) fun h1 tk acc grow items => ?_
  · exact small_one (by omega) (by omega) (by omega) (by omega)
  · rw [rangeSize_nat]
    simp
  · have size : acc.toList.length = n := by rw [Array.length_toList]; exact items.1
    apply wpAny_bind
    apply wpAny_newList _ (by rw [size, sizeLine_eq]; omega)
    have e := each n acc.toList 0 size fun j b hb => by
      obtain ⟨t, ht⟩ := items.2 j b (by rw [← Array.getElem?_toList]; exact hb)
      exact ⟨t, by rw [ht]; simp⟩
    rw [← List.range_eq_range'] at e
    apply wpAny_bind
    apply wpAny_holding
    exact wpAny_mono (rest h1 tk acc.toList grow e) (fun _ s' x => wpAny_pure ⟨_, rfl, x⟩) fun _ _ z => z
end
end Zk
namespace Pd
open PySem PySem.Spec PyProof.Rows L2 LamX NdefX
inductive KP where
  | self
  | neg (j : Nat)
def KP.val (rows : Nat → List Int) (i : Nat) : KP → Int
  | .self => (i : Int)
  | .neg j => -((rows j).getD i 0)
def kvals (rows : Nat → List Int) (ks : List KP) (i : Nat) : List Int := ks.map (KP.val rows i)
abbrev leK (rows : Nat → List Int) (ks : List KP) : Nat → Nat → Bool := PySem.W.dataLe false fun i => PyData.tuple ((kvals rows ks i).map PyData.int)
inductive IsKP (sc : Scope) (N : List Str) (x : Str) : Expr → KP → Prop
  | self {p : Pos} : IsKP sc N x (.Name x p) .self
  | neg {j : Nat} {y : Str} {p1 p2 p3 p4 : Pos} : N[j]? = some y → sc.names.lookup y = some .free → (y == ("__debug__" : Str)) = false → (y == ("__classdict__" : Str)) = false → IsKP sc N x (.UnaryOp .USub (.Subscript (.Name y p1) (.Name x p2) p3) p4) (.neg j)
inductive AreKP (sc : Scope) (N : List Str) (x : Str) : List Expr → List KP → Prop
  | nil : AreKP sc N x [] []
  | cons {e : Expr} {es : List Expr} {k : KP} {ks : List KP} : IsKP sc N x e k → (∀ env : Env, starEach (e :: es) env = (false, eval e env) :: starEach es env) → AreKP sc N x es ks → AreKP sc N x (e :: es) (k :: ks)
structure KScope (sc scope : Scope) (x : Str) : Prop where
  kind : scope.kind = .function
  co : scope.isCoroutine = false
  gen : scope.isGenerator = false
  nocell : ∀ y ∈ scope.names, y.2 ≠ .cell
  par : scope.names.lookup x = some .local
  free : ∀ y ∈ scope.names, y.2 = .free → sc.names.lookup y.1 = some .cell ∨ sc.names.lookup y.1 = some .free
  pd : (x == ("__debug__" : Str)) = false
def kscB (sc scope : Scope) (x : Str) : Bool :=
  decide (scope.kind = .function) && (!scope.isCoroutine && (!scope.isGenerator && (scope.names.all (fun y => !decide (y.2 = .cell)) && (decide (scope.names.lookup x = some .local) && (scope.names.all (fun y => !decide (y.2 = .free) || (decide (sc.names.lookup y.1 = some .cell) || decide (sc.names.lookup y.1 = some .free))) && !(x == ("__debug__" : Str)))))))
theorem kscope_by {sc scope : Scope} {x : Str} (h : kscB sc scope x = true) : KScope sc scope x := by
  unfold kscB at h
  simp only [Bool.and_eq_true, Bool.not_eq_true', decide_eq_true_eq, List.all_eq_true, Bool.or_eq_true, decide_eq_false_iff_not] at h
  obtain ⟨h1, h2, h3, h4, h5, h6, h7⟩ := h
  exact ⟨h1, h2, h3, h4, h5, fun y hy e => (h6 y hy).elim (fun z => absurd e z) id, h7⟩
def Held (env : List (Option Sl)) (rows : Nat → List Int) (n : Nat) : List KP → Prop
  | [] => True
  | .self :: ks => Held env rows n ks
  | .neg j :: ks => gt env j = some (.d (.tup ((rows j).map D.int))) ∧ n ≤ (rows j).length ∧ (rows j).length < 2 ^ 60 ∧ Held env rows n ks
def wSortKey (ks : List KP) (a : W D) : W (List D) := a.bind fun m env Q _ => ∃ (n : Nat) (rows : Nat → List Int), m = .int (n : Int) ∧ n ≤ 1000000 ∧ ks ≠ [] ∧ ks.length ≤ 100 ∧ Held env rows n ks ∧ Q (((List.range n).mergeSort (leK rows ks)).map fun (i : Nat) => D.int (i : Int)) env
end Pd

namespace Pd
open PySem PySem.Spec PyProof.Rows L2 LamX NdefX
theorem alike_ks (rows : Nat → List Int) (i j : Nat) : ∀ ks : List KP, PySem.W.alikeAll ((kvals rows ks i).map PyData.int) ((kvals rows ks j).map PyData.int) = true
  | [] => rfl
  | k :: ks => by
    show (true && PySem.W.alikeAll ((kvals rows ks i).map PyData.int) ((kvals rows ks j).map PyData.int)) = true
    rw [alike_ks rows i j ks]
    rfl
theorem depth_is : ∀ is : List Int, PyData.depthAll (is.map PyData.int) ≤ 1
  | [] => by decide
  | i :: is => by
    have := depth_is is
    show max (PyData.depth (.int i)) (PyData.depthAll (is.map PyData.int)) ≤ 1
    have e : PyData.depth (.int i) ≤ 1 := Nat.le_of_ble_eq_true rfl
    omega
theorem key_items {P : Program} {w : World} {A : Around} {env : Env} {h0 : Heap} {N : List Str} {x : Str} {rows : Nat → List Int} {i n : Nat} {V0 : PEnv} (hi : i < n)
    (self_ : ∀ p, Zk.GivesI P w A env h0 (.Name x p) (i : Int)) (neg_ : ∀ (j : Nat) (y : Str) (p1 p2 p3 : Pos) (z : Int), N[j]? = some y → env.scope.names.lookup y = some .free → (y == ("__debug__" : Str)) = false → (y == ("__classdict__" : Str)) = false → gt V0 j = some (.d (.tup ((rows j).map D.int))) → (rows j).length < 2 ^ 60 → (rows j)[i]? = some z → Zk.GivesI P w A env h0 (.Subscript (.Name y p1) (.Name x p2) p3) z) :
    ∀ {es : List Expr} {ks : List KP}, AreKP env.scope N x es ks → Held V0 rows n ks → Zk.Items P w A env h0 es (kvals rows ks i)
  | _, _, .nil, _ => .nil
  | _, _, .cons (.self) written more, h => .cons (self_ _) (written env) (key_items hi self_ neg_ more h)
  | _, _, .cons (.neg (j := j) hN free hd hcd) written more, ⟨at_, hl, hz, h⟩ => by
    have e := List.getElem?_eq_getElem (show i < (rows j).length by omega)
    refine .cons ?_ (written env) (key_items hi self_ neg_ more h)
    show Zk.GivesI P w A env h0 _ (-((rows j).getD i 0))
    rw [List.getD_eq_getElem?_getD, e]
    exact Zk.gives_neg (neg_ j _ _ _ _ _ hN free hd hcd at_ hz e)
section
variable {X : Cx} {T : List (Addr × Str)} {E : XK} {k : Nat}
structure Rg (X : Cx) (T : List (Addr × Str)) (c : Ctx) (wd : Wd) (ks : List KP) (P : List D → PEnv → Prop) (σ : L2.St) (b : Int) (H1 : Hp) : Prop where
  ex : ∃ (n : Nat) (rows : Nat → List Int) (wd1 : Wd) (env1 : PEnv), b = (n : Int) ∧ n ≤ 1000000 ∧ ks ≠ [] ∧ ks.length ≤ 100 ∧ Held env1 rows n ks ∧ P (((List.range n).mergeSort (leK rows ks)).map fun (i : Nat) => D.int (i : Int)) env1 ∧ Le wd wd1 ∧ Rel X.K T c wd1 env1 σ H1
theorem vals_is : ∀ {out : List Value} {is : List Nat}, PySem.W.EachIs (fun v (i : Nat) => ∃ t, v = Value.int (i : Int) t) out is → Vals (is.map fun (i : Nat) => V.int (i : Int)) out
  | _, _, .nil => .nil
  | _, _, .cons ⟨t, e⟩ r => by
    subst e
    exact .cons ⟨t, rfl⟩ (vals_is r)
theorem reps_is {K : PySem.W.Frag} {wd : Wd} : ∀ is : List Nat, Reps K wd (is.map fun (i : Nat) => V.int (i : Int)) (is.map fun (i : Nat) => D.int (i : Int))
  | [] => .nil
  | i :: is => .cons (.int _) (reps_is is)
theorem jf_sortKey {y x : Str} {a : Expr} {w : W D} {ks : List KP} {params : Arguments} {es : List Expr} {x1} {scope : Scope} {p p2 pr pos kpos lpos bp : Pos} (B : Bd X E k) (L : LamT X.K X.mg X.base T y) (hm : X.mg "sorted" = none) (hm2 : X.mg "range" = none) (ha : JE T X E a w)
    (S : KScope X.env.scope scope x) (kp : AreKP scope X.N x es ks)
    (hq : X.env.qual ++ "<lambda>" = lamNm y := by rfl) (hcode : X.env.code = .ref (He.codeOf X.K (y, none)) := by rfl) (hdef : defaultsOf params X.env = ([], []) := by rfl)
    (hbind : ∀ (q : Str) (cl : List (Str × Addr)) (pm cv ctv v : Value), bindArgs (PySem.W.kla_fn "<lambda>" q params (.Tuple es x1 bp) scope cl pm cv ctv) ⟨[v], []⟩ = pure [(x, v)] := by intros; rfl)
    (hg : Gl X "sorted" := by rfl) (hg2 : Gl X "range" := by rfl) (na : starEach [a] X.env = (false, eval a X.env) :: starEach [] X.env := by rfl)
    (hs : starEach [.Call (.Name "range" p2) [a] [] pr] X.env = (false, eval (.Call (.Name "range" p2) [a] [] pr) X.env) :: starEach [] X.env := by rfl)
    (he : backTo pos (starEach [.Call (.Name "range" p2) [a] [] pr] X.env) = (false, eval (.Call (.Name "range" p2) [a] [] pr) X.env) :: backTo pos (starEach [] X.env) := by rfl)
    (hpl : (backTo pos (starEach [.Call (.Name "range" p2) [a] [] pr] X.env)).any (·.1) = false := by rfl)
    (hall : (backToKw pos (keywordEach [⟨some "key", .Lambda params (.Tuple es x1 bp) scope lpos, kpos⟩] X.env)).all (·.1.isSome) = true := by rfl)
    (hnone : (backToKw pos (keywordEach [⟨some "key", .Lambda params (.Tuple es x1 bp) scope lpos, kpos⟩] X.env)).any (·.1.isNone) = false := by rfl)
    (hks : (backToKw pos (keywordEach [⟨some "key", .Lambda params (.Tuple es x1 bp) scope lpos, kpos⟩] X.env)).filterMap (·.1) = [Str.ofString "key"] := by rfl) :
    JF T X E (.Call (.Name "sorted" p) [.Call (.Name "range" p2) [a] [] pr] [⟨some "key", .Lambda params (.Tuple es x1 bp) scope lpos, kpos⟩] pos) (wSortKey ks w) := by
  refine ⟨fun pins s σ H Q I h => ?_⟩
  obtain ⟨c, wd, env, P, Ex, r, hw, xo, kk⟩ := h
  refine wpAny_Call_Name_kw (ld_blt I hg hm (by decide +kernel : bootBuiltins "sorted" = some (.builtin "sorted")) ?_)
  refine PyProof.Rows.callWith_kw ?_ he hpl hall hnone
  rw [he]
  refine Calls.spliced_cons (Call_ (ld_blt I hg2 hm2 PyProof.Rows.boot_range (PyProof.Rows.callWith_type1 (one_arg ha (R := fun m H1 => ∃ b : Int, m = .int b ∧ Rg X T c wd ks P σ b H1) I ⟨c, wd, env, _, Ex, r, hw, xo, fun m env1 ⟨n, rows, e1, hn, k0, k9, held, q⟩ v wd1 H1 le1 r1 rp1 => ?_⟩ (fun v s0 m H1 I0 rm info => ?_) na) na)))
  · subst e1
    cases rp1
    exact ⟨(n : Int), rfl, ⟨n, rows, wd1, env1, rfl, hn, k0, k9, held, q, le1, r1⟩⟩
  obtain ⟨b, rfl, ⟨n, rows, wd1, env1, rfl, hn, k0, k9, held, q, le1, r1⟩⟩ := info
  obtain ⟨t, rfl⟩ := rm
  refine call_range_1 ?_
  have I1 : Inv X ((s0.heap.objs.size, _) :: pins) σ H1 _ := ClX.pin_new (t' := s0.toks + 1 + 1) (o := { cls := .type "range", data := .fields #[.int 0 s0.toks, .int (n : Int) t, .int 1 (s0.toks + 1)] }) I0 (fun b u e => Heap.get?_push_of_some _ e) (Nat.le_refl _) (Heap.get?_push_size _ rfl) (fun v z => by cases z)
  refine Calls.spliced_nil ?_
  show wpAny _ _ (evalAll [do let v ← eval (.Lambda params (.Tuple es x1 bp) scope lpos) X.env; standAt pos; pure v]) _ _ _
  have hfree : ∀ y ∈ scope.names, y.2 = .free → ∃ c, X.env.cells.lookup y.1 = some c := fun y hy e => (S.free y hy e).elim (fun z => I1.ok.has _ (.inl z)) fun z => I1.ok.has _ (.inr z)
  refine wpAny_evalAll_cons (wpAny_bind (lam_make2 (T := T) I1 L.tb hcode (by rw [hq]; exact L.mem) (fun p hp e => by rw [hq]; exact L.uni p hp e) r1.good.tab hdef hfree fun f c' pm ctv H2 s2 I2 eN T2 made nof nofr code => ?_))
  refine wpAny_bind (wpAny_standAt (wpAny_pure (wpAny_evalAll_nil ?_)))
  rw [hks]
  show wpAny _ _ (call (.builtin "sorted") [.ref s0.heap.objs.size] [(Str.ofString "key", .ref f)]) _ _ s2
  have g2 : Good T wd1 H2 := r1.good.extN eN T2 (hok_siz I2.hok)
  have r2 : Rel X.K T c wd1 env1 σ H2 := r1.go (Ord.refl _ _) g2 (Keep.extN eN)
  have isr : IsRange s2.heap s0.heap.objs.size 0 (n : Int) 1 s0.toks t (s0.toks + 1) := ClX.pin_at I2
  have hd := I2.ok.hd B.calm
  have codeR := codeO_at I2.hok code
  have free := I2.nolimit
  have un := B.room.un
  have dp := B.room.dp
  refine Zk.sorted_rg hd isr hn (PyProof.Rows.ksk_s1 _ _) fun h1 tk vs grow each => ?_
  have lr : (List.range n).length ≤ sizeLine := by rw [List.length_range, sizeLine_eq]; omega
  refine PySem.W.list_sort_key_data (s := { s2 with heap := h1.push (seqObj "list" vs.toArray 0), toks := tk }) (bs := List.range n) (R := fun v (i : Nat) => ∃ t, v = Value.int (i : Int) t) (b := false) (fun i => PyData.tuple ((kvals rows ks i).map PyData.int)) (Heap.get?_push_size _ rfl) each (fun d hd d' hd' => ?_) (.inl fun d hd => ?_) lr (fun i _ => ?_) (PyProof.Rows.ksk_l1 _ _) (PyProof.Rows.ksk_t1 _ _) (fun v i hv hi h4 tk4 kb4 => ?_) fun out c3 h3 tk3 kb at3 lo eo => ?_
  · obtain ⟨i, _, rfl⟩ := List.mem_map.mp hd
    obtain ⟨j, _, rfl⟩ := List.mem_map.mp hd'
    exact alike_ks rows i j ks
  · obtain ⟨i, _, rfl⟩ := List.mem_map.mp hd
    cases ks with
    | nil => exact absurd rfl k0
    | cons k1 ks => exact ⟨_, _, rfl⟩
  · have := depth_is (kvals rows ks i)
    show X.A.units + 1 + 1 + (PyData.depthAll ((kvals rows ks i).map PyData.int) + 1) < cLine
    omega
  · obtain ⟨tv, rfl⟩ := hv
    have hin : i < n := List.mem_range.mp hi
    have g14 : Zk.Grow h1 h4 := fun b o e => kb4 b o (Nat.ne_of_lt (Heap.lt_size e)) (Heap.get?_push_of_some _ e)
    have g4 : Zk.Grow s2.heap h4 := grow.then g14
    have codeK : Heap.CodeRec h4 (.ref c') (X.env.qual ++ "<lambda>") := by
      obtain ⟨c0, oc, ws, tc, e1, e2, e3, e4⟩ := codeR
      exact ⟨c0, oc, ws, tc, e1, g4 _ _ e2, e3, e4⟩
    refine Zk.key_call (s := { s2 with heap := h4, toks := tk4 }) (x := x) (g4 _ _ made) (by show X.A.depth < _; omega) (free.keeps g4) codeK S.kind S.co S.gen S.nocell S.par (hbind _ _ _ _ _ _) fun h5 tk5 g5 ns => ?_
    have g25 : Zk.Grow s2.heap h5 := g4.then g5
    have selfI : ∀ p, Zk.GivesI X.prog X.w (X.A.in1.in1.deeper (PySem.W.envX (X.env.qual ++ "<lambda>") scope h4.objs.size f (.ref c') (cloFrom X.env.cells scope.names []))) (PySem.W.envX (X.env.qual ++ "<lambda>") scope h4.objs.size f (.ref c') (cloFrom X.env.cells scope.names [])) h5 (.Name x p) (i : Int) := fun p =>
      Zk.gives_par (t := tv) S.kind S.par ns (by simp [List.lookup]) S.pd
    refine Zk.key_tuple (h0 := h5) (is := kvals rows ks i) (key_items (V0 := env1) (N := X.N) (n := n) hin selfI (fun j y p1 p2 p3 z hN fr hdb hcd at_ small hz => ?_) kp held) (by show (ks.map _).length ≤ _; rw [List.length_map]; omega) { s2 with heap := h5, toks := tk5 } _ fun _ _ z => z
    obtain ⟨vj, ej, rp⟩ := r2.dat j _ (gt_eq _ _ at_)
    cases rp with
    | @tup aj vsj _ hsq rs =>
      rw [rs.ints] at hsq
      obtain ⟨its, va, tup, _⟩ := I2.tuple (sub_sqT g2 hsq)
      have cap := cells_of I2 (Caps.made (fr := [y]) (js := [j]) I2.ok S.free (fun y' hy' => by rw [List.mem_singleton.mp hy']; exact PySem.mem_of_lookup fr) (by simp [hN]))
      obtain ⟨cy, hc, hv⟩ := cap.has 0 y rfl
      obtain ⟨u, ru, cell⟩ := hv (.ref aj) (by
        show some (slotAt σ j) = _
        rw [slotAt_of ej])
      cases ru
      have tup5 : IsTup h5 aj its.toArray := by
        obtain ⟨o, ho, rest⟩ := tup
        exact ⟨o, g25 _ _ ho, rest⟩
      exact Zk.gives_ix S.kind fr hc (cell.keeps g25) tup5 (by simpa using ints_of_vals va) small (selfI _) hz (fun _ _ => rfl) hdb hcd
  · have hz : (((List.range n).mergeSort (leK rows ks)).map fun (i : Nat) => V.int (i : Int)).length ≤ sizeLine := by
      rw [List.length_map, List.length_mergeSort]
      exact lr
    have I3 : Inv X pins σ H2 { s2 with heap := h1, toks := tk } := (ClX.unpin I2).kept grow
    have hnone : H2 h1.objs.size = none := I3.hok.fresh (Nat.le_refl _)
    have J := I3.laid (a := h1.objs.size) (o := .lst (((List.range n).mergeSort (leK rows ks)).map fun (i : Nat) => V.int (i : Int))) (h' := h3) (t' := tk3) (fun b u e => kb b u (Nat.ne_of_lt (Heap.lt_size e)) (Heap.get?_push_of_some _ e)) (Nat.le_refl _) ⟨hz, out, c3, vals_is eo, at3⟩
    obtain ⟨r3, f3⟩ := r2.fresh hnone (reps_is ((List.range n).mergeSort (leK rows ks))) hz
    exact ⟨.ref h1.objs.size, _, J, rfl, kk _ env1 q _ wd1 _ le1 r3 f3⟩
end
end Pd

namespace Pd
open PySem PySem.Spec PyProof.Rows L2 LamX NdefX
section
variable {P : Program} {w : World} {K : PySem.W.Frag} {mg : Str → Option Value} {base : Heap} {T : List (Addr × Str)}
theorem def_okC {x : Str} {st : Stmt} {N ps : List Str} {k : Nat} {F : Fn} (d : HasD K mg x st) (gm : mg x = some (.ref (He.ga K x))) (S : FnScope N ps (defScope st))
    (bn : ∀ (f : Addr) (fd : FuncData), FunD K x x (defArgs st) (defBody st) (defScope st) [] [] f fd → Binds K fd ps []) (len : ∀ ds Q Ex, F ds Q Ex → ds.length = ps.length)
    (hd : ∀ (A : Around) (outer : List Env) (s : Shared) (H : Hp) (E : XK), Bd (cxOf (L2.CX P w) P w K mg base N x (defScope st) (He.ga K x) (.ref (He.codeOf K (x, none))) A outer s H E) E k → Takes (cxOf (L2.CX P w) P w K mg base N x (defScope st) (He.ga K x) (.ref (He.codeOf K (x, none))) A outer s H E) (fun cls d _ H => E cls d H) →
      ∃ wb, JSs T (cxOf (L2.CX P w) P w K mg base N x (defScope st) (He.ga K x) (.ref (He.codeOf K (x, none))) A outer s H E) E (defBody st) wb ∧ ∀ ds Q Ex, F ds Q Ex → wb (dEnds Q Ex) (startE N ds)) : DefOk P w K mg base T x (k + 1) ps F := by
  obtain ⟨f, fd, D, at_⟩ := d
  have same : f = He.ga K x := by
    rw [gm] at at_
    cases at_
    rfl
  subst same
  have bnd := bn _ _ D
  have kept := D.kp
  obtain ⟨oc, od, dV, kV, doc, pm, an, cdv, ct, osl, rfl, lk, inn, _, _⟩ := D.ex
  obtain ⟨c, rfl⟩ := He.codeIn_ref inn
  obtain rfl : He.codeOf K (x, none) = c := He.codeOf_eq (p := (x, none)) lk rfl
  refine ⟨_, _, at_, kept, bnd, fn_of lk inn S (fun vs H Q E h => ?_) (fun A outer s H vs Q E room h => ?_), ⟨oc, od, osl, lk⟩⟩
  · obtain ⟨wd, ds, P, Ex, _, r, h, _⟩ := h
    exact r.length.trans (len ds P Ex h)
  · obtain ⟨wd, ds, P1, Ex, g, r, h, xo, kk⟩ := h
    have tk : Takes (cxOf (L2.CX P w) P w K mg base N x (defScope st) (He.ga K x) (.ref (He.codeOf K (x, none))) A outer s H E) (fun cls d _ H => E cls d H) := takes_of rfl rfl rfl rfl
    obtain ⟨wb, hj, hw⟩ := hd A outer s H E ⟨room, passes_call tk fun _ _ _ _ h => h, passes_of rfl, rfl, S.nd⟩ tk
    refine ⟨_, hj, ⟨wd, H, []⟩, wd, startE N ds, dEnds P1 Ex, rel_start g r, hw ds P1 Ex h, xo, ?_, ?_, fun _ z => z.elim, fun _ z => z.elim⟩
    · exact fun env' hn σ' wd' H' le r' => kk .non hn .non wd' H' r'.ord r'.good r'.keep .non
    · exact fun d hd v wd' H' o' g' k' rp => kk d hd v wd' H' o' g' k' rp
end
end Pd

namespace Pd
open PySem PySem.Spec PyProof.Rows L2 LamX
inductive HK where
  | lst (s : Str) (f : Option Str)
  | str (s : Str)
  | rep (s f : Str)
  | non
  | bl (b : Bool)
structure Hq where
  x : Str
  r : HK
section
variable {X : Cx} {i : Nat}
end
end Pd

namespace Pd
open PySem PySem.Spec PyProof.Rows L2 LamX
section
variable {X : Cx} {T : List (Addr × Str)} {E : XK} {k : Nat}
end
end Pd

namespace Pd
open PySem PySem.Spec PyProof.Rows L2 LamX
section
variable {i : Nat} {cls : List Str} {hs : List Hq} {fin : Str} {w : W D} {b : WS} {pe : PEnds} {env : PEnv} {xs : List D}
end
end Pd

namespace Ta
open PySem PySem.Spec PyProof.Rows L2 LamX Pd
abbrev F_is_integer := Pd.F_is_integer
abbrev F_is_from := Pd.F_is_from
abbrev F_L_urn := Pd.F_newbox
abbrev F_L_ball := Pd.F_draw
abbrev F_L_pick := Pd.F_pick
def badN (x : D) : Xc := ⟨"InvalidNumber", [("value", x)]⟩
structure Tb (c : Int) (rs : List (List Int)) : Prop where
  c1 : 1 ≤ c
  c9 : c ≤ 9
  l1 : 1 ≤ rs.length
  l12 : rs.length ≤ 12
  w : ∃ m, 1 ≤ m ∧ m ≤ 12 ∧ ∀ r ∈ rs, r.length = m
  ce : ∀ r ∈ rs, ∀ x ∈ r, 0 ≤ x ∧ x ≤ c
abbrev lnD (rs : List (List Int)) : D := .tup (rs.map Ti)
abbrev tbD (c : Int) (rs : List (List Int)) : D := .ins "Table" [("own_cap", .int c), ("own_lines", lnD rs)]
def wd (rs : List (List Int)) : Nat := (rs.headD []).length
def cl (rs : List (List Int)) (i j : Nat) : Int := (rs.getD i []).getD j 0
def colI (rs : List (List Int)) (j : Nat) : List Int := rs.map fun r => r.getD j 0
def flip (rs : List (List Int)) : List (List Int) := (List.range (wd rs)).map (colI rs)
def put (rs : List (List Int)) (i j : Nat) (z : Int) : List (List Int) := rs.set i ((rs.getD i []).set j z)
def lsum (rs : List (List Int)) : List Int := rs.map List.sum
def csum (rs : List (List Int)) : List Int := (flip rs).map List.sum
def F_L_grid : Fn := fun ds Q _ => ∃ (p : Addr) (c l m : Int), ds = [.box p, .int c, .int l, .int m] ∧ 1 ≤ c ∧ c ≤ 9 ∧ 1 ≤ l ∧ l ≤ 12 ∧ 1 ≤ m ∧ m ≤ 12 ∧ ∀ rs : List (List Int), (rs.length : Int) = l → (∀ r ∈ rs, (r.length : Int) = m) → (∀ r ∈ rs, ∀ x ∈ r, 0 ≤ x ∧ x ≤ c) → Q (lnD rs)
def F_is_cap : Fn := fun ds Q _ => ∃ c : Int, ds = [.int c] ∧ 1 ≤ c ∧ c ≤ 9 ∧ Q (.bl true)
end Ta

namespace Ta
open PySem PySem.Spec PyProof.Rows L2 LamX Pd
def N_is_integer : List Str := ["value"]
def w_is_integer : WS := (sRet (wAnd (w1 (dIsi "int") (wVar 0)) (wNot (w1 (dIsi "bool") (wVar 0)))))
def N_is_from : List Str := ["value", "first", "last"]
def w_is_from : WS := (sRet (wAnd (wCall F_is_integer (wCons (wVar 0) wNil)) (wChain dLe dLe (wVar 1) (wVar 0) (wVar 2))))
def N_L_urn : List Str := ["_law_script", "_law_at", "_law_cell", "_law_great", "_law_mixed_here"]
def w_L_urn : WS := (sSeq (sSet 2 (wIf (wTest (wBin dLt (wVar 1) (w1 dLen (wVar 0)))) (xBin fIdx (wVar 0) (wVar 1)) (xBin fAdd (xBin fMul (W.ret (.int 79)) (wVar 1)) (W.ret (.int 53))))) (sSeq (sSet 3 (xBin fMod (w1 dInt (wN dAbs (wCons (wVar 2) wNil))) (xBin fPow (xBin fPow (W.ret (.int 10)) (W.ret (.int 58))) (W.ret (.int 9))))) (sSeq (sSet 4 (xBin fAdd (xBin fAdd (xBin fAdd (xBin fMul (xBin fMod (w1 dInt (wVar 3)) (W.ret (.int 2305843009213693921))) (W.ret (.int 50147))) (xBin fMul (W.ret (.int 8929)) (wVar 1))) (xBin fMul (W.ret (.int 73)) (w1 dInt (wBin dLt (wVar 2) (W.ret (.int 0)))))) (W.ret (.int 47)))) (sRet (wBox (wSz (wCons (wN dMax2 (wCons (W.ret (.int 0)) (wCons (wBin dSub (wVar 3) (xBin fPow (W.ret (.int 10)) (W.ret (.int 18)))) wNil))) (wCons (xBin fMod (w1 dInt (wVar 4)) (W.ret (.int 2305843009213693907))) (wCons (W.ret (.int 0)) wNil)))))))))
def N_L_ball : List Str := ["_law_urn_here", "_law_total", "_law_one", "_law_two", "_law_found"]
def w_L_ball : WS := (sSeq (sIf (wTest (wBin dGt (wBoxGet (wVar 0) (W.ret (.int 0))) (W.ret (.int 0)))) (sSeq (sSet 4 (xBin fMod (w1 dInt (wBoxGet (wVar 0) (W.ret (.int 0)))) (wVar 1))) (sSeq (sBoxSet 0 0 (xBin fDiv (wBoxGet (wVar 0) (W.ret (.int 0))) (wVar 1))) (sRet (wVar 4)))) sNil) (sSeq (sBoxSet 0 2 (xBin fAdd (wBoxGet (wVar 0) (W.ret (.int 2))) (W.ret (.int 1)))) (sSeq (sSet 2 (xBin fMod (w1 dInt (xBin fAdd (wBoxGet (wVar 0) (W.ret (.int 1))) (xBin fMul (W.ret (.int 1000357)) (wBoxGet (wVar 0) (W.ret (.int 2)))))) (W.ret (.int 2305843009213693951)))) (sSeq (sSet 3 (xBin fAdd (xBin fMul (xBin fMod (w1 dInt (xBin fMul (wVar 2) (wVar 2))) (W.ret (.int 2305843009213693921))) (wVar 2)) (xBin fMul (W.ret (.int 7877)) (wBoxGet (wVar 0) (W.ret (.int 2)))))) (sRet (xBin fMod (w1 dInt (xBin fDiv (xBin fMod (w1 dInt (wVar 3)) (W.ret (.int 2305843009213693907))) (W.ret (.int 32768)))) (wVar 1)))))))
def N_L_pick : List Str := ["_law_urn_here", "_law_items"]
def w_L_pick : WS := (sRet (xBin fIdx (wVar 1) (wCall F_L_ball (wCons (wVar 0) (wCons (w1 dLen (wVar 1)) wNil)))))
def N_L_grid : List Str := ["_law_urn_here", "_law_cap", "_law_lines", "_law_columns", "_law_menu", "_law_found", "_law_line", "_law_column"]
def w_L_grid : WS := (sSeq (sSet 4 (wCall F_L_pick (wCons (wVar 0) (wCons (wLst (wSz (wCons (wLst (wRgF (wRg1 (xBin fAdd (wVar 1) (W.ret (.int 1)))))) (wCons (wLst (wSz (wCons (W.ret (.int 0)) (wCons (wVar 1) wNil)))) (wCons (wLst (wSz (wCons (W.ret (.int 0)) (wCons (W.ret (.int 0)) (wCons (wVar 1) (wCons (wCall F_L_ball (wCons (wVar 0) (wCons (xBin fAdd (wVar 1) (W.ret (.int 1))) wNil))) wNil)))))) wNil))))) wNil)))) (sSeq (sSetOwn 5 (wSz wNil)) (sSeq (sFor (wRng1 (wVar 2)) (gNm 6) (sDrop (wAppend 5 (w1 dTuple (wLst (wComp (wRng1 (wVar 3)) (gNm 7) (W.ret true) (wCall F_L_pick (wCons (wVar 0) (wCons (wVar 4) wNil))) [7])))))) (sRet (w1 dTuple (wOwn 5))))))
def N_is_cap : List Str := ["value"]
def w_is_cap : WS := (sRet (wCall F_is_from (wCons (wVar 0) (wCons (W.ret (.int 1)) (wCons (W.ret (.int 9)) wNil)))))
end Ta

namespace Ta
open PySem PySem.Spec PyProof.Rows L2 LamX Pd
theorem pure_is_integer (ds : List D) (Q : D → Prop) (Ex : Xc → Prop) (h : F_is_integer ds Q Ex) : w_is_integer (dEnds Q Ex) (startE N_is_integer ds) := Pd.pure_is_integer ds Q Ex h
theorem len_is_integer (ds : List D) (Q : D → Prop) (Ex : Xc → Prop) (h : F_is_integer ds Q Ex) : ds.length = 1 := by
  obtain ⟨x, rfl, _⟩ := h
  rfl
theorem pure_is_from (ds : List D) (Q : D → Prop) (Ex : Xc → Prop) (h : F_is_from ds Q Ex) : w_is_from (dEnds Q Ex) (startE N_is_from ds) := Pd.pure_is_from ds Q Ex h
theorem len_is_from (ds : List D) (Q : D → Prop) (Ex : Xc → Prop) (h : F_is_from ds Q Ex) : ds.length = 3 := by
  obtain ⟨x, a, b, rfl, _⟩ := h
  rfl
theorem log_lt {n : Int} (h0 : 0 < n) (h : n < 2 ^ 200) : n.natAbs.log2 < 9000 := by
  have h1 : n.natAbs < 2 ^ 200 := by
    have : (n.natAbs : Int) = n := Int.natAbs_of_nonneg (by omega)
    omega
  exact Nat.lt_of_lt_of_le (PySem.Flt.log2_lt_of (by decide) h1) (by decide)
theorem bok0 {g : Int} (h : bokB 0 g) : 0 ≤ g ∧ g < 2 ^ 4000 := ⟨h.1, by
  rcases h.2 with b | b | b
  · exact b.2
  · exact absurd b.1 (by decide)
  · exact absurd b (by decide)⟩
theorem pure_L_ball (ds : List D) (Q : D → Prop) (Ex : Xc → Prop) (h : F_L_ball ds Q Ex) : w_L_ball (dEnds Q Ex) (startE N_L_ball ds) := by
  obtain ⟨p, n, rfl, n0, n1, q⟩ := h
  have lg := log_lt n0 n1
  refine ⟨by decide, by decide, fun g hg => br_if (fun hp => ?_) (fun hp => ?_)⟩
  · refine ⟨by decide, by decide, fun g1 hg1 => ⟨n0, ?_⟩⟩
    refine ⟨by decide, by decide, fun g2 hg2 => ⟨⟨n0, lg⟩, by decide, by decide, ?_, ?_⟩⟩
    · obtain ⟨a, b⟩ := bok0 hg2
      exact ⟨Int.ediv_nonneg a (Int.le_of_lt n0), .inl ⟨rfl, Int.lt_of_le_of_lt (Int.ediv_le_self _ a) b⟩⟩
    · exact q _ (Int.emod_nonneg _ (by omega)) (Int.emod_lt_of_pos _ n0)
  · refine ⟨by decide, by decide, fun c hc => ⟨by decide, by decide, ⟨by have := hc.1; omega, .inr (.inr rfl)⟩, ?_⟩⟩
    refine ⟨by decide, by decide, fun s1 hs1 => ⟨by decide, by decide, fun c1 hc1 => ⟨.inl (.inl (by decide)), by decide, ?_⟩⟩⟩
    have sm : ∀ z : Int, (z % 2305843009213693951).natAbs < 2 ^ 64 := fun z => by omega
    refine ⟨.inl (.inl (sm _)), by decide, ⟨.inl (.inr (sm _)), ⟨by decide, by decide, fun c2 hc2 => ⟨.inl (.inl (by decide)), ?_⟩⟩⟩⟩
    refine ⟨by decide, ⟨by decide, by decide⟩, n0, ?_⟩
    exact q _ (Int.emod_nonneg _ (by omega)) (Int.emod_lt_of_pos _ n0)
theorem len_L_ball (ds : List D) (Q : D → Prop) (Ex : Xc → Prop) (h : F_L_ball ds Q Ex) : ds.length = 2 := by
  obtain ⟨p, n, rfl, _⟩ := h
  rfl
theorem atI_nat {α : Type} {xs : List α} {r : Int} {x : α} (h0 : 0 ≤ r) (h : xs[r.toNat]? = some x) : atI xs r = some x := by
  have hl := (List.getElem?_eq_some_iff.mp h).1
  unfold atI ixN
  rw [if_pos h0, if_pos (by omega)]
  exact h
theorem idx_items {x : D} {xs : List D} {r : Int} {y : D} (hx : dItems x = some xs) (h0 : 0 ≤ r) (h : xs[r.toNat]? = some y) : dIdx x (.int r) = some y := by
  cases x with
  | lst ys =>
    cases hx
    exact atI_nat h0 h
  | tup ys =>
    cases hx
    exact atI_nat h0 h
  | _ => cases hx
theorem items_or {x : D} {xs : List D} (hx : dItems x = some xs) : x = .lst xs ∨ x = .tup xs := by
  cases x with
  | lst ys =>
    cases hx
    exact .inl rfl
  | tup ys =>
    cases hx
    exact .inr rfl
  | _ => cases hx
theorem pure_L_pick (ds : List D) (Q : D → Prop) (Ex : Xc → Prop) (h : F_L_pick ds Q Ex) : w_L_pick (dEnds Q Ex) (startE N_L_pick ds) := by
  obtain ⟨p, x, xs, rfl, hx, ne, hl, q⟩ := h
  have l0 : 0 < xs.length := List.length_pos_iff.mpr ne
  have key : ∀ r : Int, 0 ≤ r → r < xs.length → ∃ z, dIdx x (.int r) = some z ∧ Q z := fun r h0 h1 => by
    have hr : r.toNat < xs.length := by omega
    exact ⟨_, idx_items hx h0 (List.getElem?_eq_getElem hr), q _ (List.getElem_mem hr)⟩
  rcases items_or hx with rfl | rfl
  · exact ⟨p, _, rfl, by omega, by omega, key⟩
  · exact ⟨p, _, rfl, by omega, by omega, key⟩
theorem len_L_pick (ds : List D) (Q : D → Prop) (Ex : Xc → Prop) (h : F_L_pick ds Q Ex) : ds.length = 2 := by
  obtain ⟨p, x, xs, rfl, _⟩ := h
  rfl
theorem upTo_length (a b : Int) : (Pd.upTo a b).length = (b - a).toNat := by
  unfold Pd.upTo
  rw [List.length_map, List.length_range]
theorem scr_at {ns : List Int} {i : Int} (h0 : 0 ≤ i) (h : i < ns.length) : ∃ n, dIdx (.scr ns) (.int i) = some (.int n) := by
  have hr : i.toNat < ns.length := by omega
  refine ⟨ns[i.toNat], ?_⟩
  show (atI ns i).map D.int = _
  rw [atI_nat h0 (List.getElem?_eq_getElem hr)]
  rfl
theorem box_ok {g m : Int} (h0 : 0 < m) (h : m ≤ 2 ^ 4000) (c : Int) (hc : 0 ≤ c) : 0 ≤ (if g % m - c > 0 then g % m - c else 0) ∧ (if g % m - c > 0 then g % m - c else 0) < 2 ^ 4000 := by
  have a := Int.emod_nonneg g (show m ≠ 0 by omega)
  have b := Int.emod_lt_of_pos g h0
  have p : (0 : Int) < 2 ^ 4000 := by decide
  split
  · omega
  · exact ⟨Int.le_refl _, p⟩
theorem pure_L_urn (ds : List D) (Q : D → Prop) (Ex : Xc → Prop) (h : F_L_urn ds Q Ex) : w_L_urn (dEnds Q Ex) (startE N_L_urn ds) := by
  obtain ⟨ns, i, rfl, i0, i1, hl, q⟩ := h
  refine br_if (fun h1 => ?_) (fun h1 => ?_)
  · obtain ⟨n, e⟩ := scr_at i0 h1
    refine ⟨_, e, ?_⟩
    refine ⟨by decide, by decide, by decide, by decide, ?_⟩
    refine ⟨.inl (.inr (by decide)), .inl (.inl (by decide)), .inl (.inl (by decide)), ?_⟩
    refine ⟨by decide, by decide, Nat.le_of_ble_eq_true rfl, ?_, q⟩
    obtain ⟨a, b⟩ := box_ok (g := if n < 0 then -n else n) (m := (10 ^ Int.toNat 58) ^ Int.toNat 9) (by decide) (by decide) (10 ^ Int.toNat 18) (by decide)
    exact ⟨a, b, Int.emod_nonneg _ (by decide), Int.lt_trans (Int.emod_lt_of_pos _ (by decide)) (by decide), by decide⟩
  · refine ⟨.inl (.inl (by decide)), ?_⟩
    refine ⟨by decide, by decide, by decide, by decide, ?_⟩
    refine ⟨.inl (.inr (by decide)), .inl (.inl (by decide)), .inl (.inl (by decide)), ?_⟩
    refine ⟨by decide, by decide, Nat.le_of_ble_eq_true rfl, ?_, q⟩
    obtain ⟨a, b⟩ := box_ok (g := if 79 * i + 53 < 0 then -(79 * i + 53) else 79 * i + 53) (m := (10 ^ Int.toNat 58) ^ Int.toNat 9) (by decide) (by decide) (10 ^ Int.toNat 18) (by decide)
    exact ⟨a, b, Int.emod_nonneg _ (by decide), Int.lt_trans (Int.emod_lt_of_pos _ (by decide)) (by decide), by decide⟩
theorem len_L_urn (ds : List D) (Q : D → Prop) (Ex : Xc → Prop) (h : F_L_urn ds Q Ex) : ds.length = 2 := by
  obtain ⟨ns, i, rfl, _⟩ := h
  rfl
end Ta

namespace Ta
open PySem PySem.Spec PyProof.Rows L2 LamX Pd
theorem le_chain {a b c : Int} (h1 : a ≤ b) (h2 : b ≤ c) : (decide (a ≤ b) && decide (b ≤ c)) = true := by
  rw [decide_eq_true h1, decide_eq_true h2]
  rfl
theorem pure_is_cap (ds : List D) (Q : D → Prop) (Ex : Xc → Prop) (h : F_is_cap ds Q Ex) : w_is_cap (dEnds Q Ex) (startE N_is_cap ds) := by
  obtain ⟨c, rfl, h1, h9, q⟩ := h
  refine ⟨.int c, 1, 9, rfl, rfl, ?_⟩
  rw [show inR (.int c) 1 9 = true from le_chain h1 h9]
  exact q
theorem len_is_cap (ds : List D) (Q : D → Prop) (Ex : Xc → Prop) (h : F_is_cap ds Q Ex) : ds.length = 1 := by
  obtain ⟨x, rfl, _⟩ := h
  rfl
theorem all_true {α : Type} {l : List α} {f : α → Bool} (h : ∀ x ∈ l, f x = true) : (l.map f).all id = true := by
  rw [List.all_map]
  exact List.all_eq_true.mpr h
theorem upTo_mem {a b : Int} {d : D} (h : d ∈ Pd.upTo a b) : ∃ i : Int, d = .int i ∧ a ≤ i ∧ i < b := by
  unfold Pd.upTo at h
  obtain ⟨i, hi, rfl⟩ := List.mem_map.mp h
  have := List.mem_range.mp hi
  exact ⟨_, rfl, by omega, by omega⟩
theorem pure_L_grid (ds : List D) (Q : D → Prop) (Ex : Xc → Prop) (h : F_L_grid ds Q Ex) : w_L_grid (dEnds Q Ex) (startE N_L_grid ds) := by
  obtain ⟨p, c, l, m, rfl, c1, c9, l1, l12, m1, m12, q⟩ := h
  have go : ∀ menu : D, (∃ es : List D, menu = .lst es ∧ es ≠ [] ∧ es.length ≤ 1000000 ∧ ∀ d ∈ es, ∃ x : Int, d = .int x ∧ 0 ≤ x ∧ x ≤ c) →
      (sSeq (sSetOwn 5 (wSz wNil)) (sSeq (sFor (wRng1 (wVar 2)) (gNm 6) (sDrop (wAppend 5 (w1 dTuple (wLst (wComp (wRng1 (wVar 3)) (gNm 7) (W.ret true) (wCall F_L_pick (wCons (wVar 0) (wCons (wVar 4) wNil))) [7])))))) (sRet (w1 dTuple (wOwn 5))))) (dEnds Q Ex) [some (.d (.box p)), some (.d (.int c)), some (.d (.int l)), some (.d (.int m)), some (.d menu), none, none, none] := by
    rintro _ ⟨es, rfl, e0, e1, he⟩
    refine ⟨Nat.le_of_ble_eq_true rfl, by omega, by omega, ?_⟩
    refine forW_ind (fun rest env => ∃ (rs : List (List Int)) (s t : Option Sl), env = [some (.d (.box p)), some (.d (.int c)), some (.d (.int l)), some (.d (.int m)), some (.d (.lst es)), some (.own (rs.map Ti)), s, t] ∧ (rs.length : Int) + (rest.length : Int) = l ∧ (∀ r ∈ rs, (r.length : Int) = m) ∧ (∀ r ∈ rs, ∀ x ∈ r, 0 ≤ x ∧ x ≤ c)) ?_ ?_ _ _ ⟨[], none, none, rfl, by rw [upTo_length]; simp; omega, (fun r hr => nomatch hr), fun r hr => nomatch hr⟩
    · rintro x rest env ⟨rs, s, t, rfl, hl, hm, hx⟩ ih
      rw [List.length_cons] at hl
      refine ⟨by omega, by omega, ?_⟩
      refine compW_ind (fun rest2 env acc => ∃ (r : List Int) (s : Option Sl), env = [some (.d (.box p)), some (.d (.int c)), some (.d (.int l)), some (.d (.int m)), some (.d (.lst es)), some (.own (rs.map Ti)), some (.d x), s] ∧ acc = r.map D.int ∧ (r.length : Int) + (rest2.length : Int) = m ∧ (∀ x ∈ r, 0 ≤ x ∧ x ≤ c)) ?_ ?_ _ _ _ ⟨[], _, rfl, rfl, by rw [upTo_length]; simp; omega, fun x hx => nomatch hx⟩
      · rintro y rest2 env acc ⟨r, s, rfl, rfl, hl2, hr⟩ ih2
        rw [List.length_cons] at hl2
        refine br_tt rfl ⟨p, _, es, rfl, rfl, e0, e1, fun d hd => ?_⟩
        obtain ⟨z, rfl, z0, z1⟩ := he d hd
        exact ih2 _ _ ⟨r ++ [z], _, rfl, by rw [List.map_append]; rfl, by rw [List.length_append]; simp; omega, fun x hx => by
          rcases List.mem_append.mp hx with hx | hx
          · exact hr x hx
          · rw [List.mem_singleton.mp hx]
            exact ⟨z0, z1⟩⟩
      · rintro env acc ⟨r, s, rfl, rfl, hl2, hr⟩
        simp at hl2
        refine ⟨by rw [List.length_map]; omega, ih _ ⟨rs ++ [r], _, _, by rw [List.map_append]; rfl, by rw [List.length_append]; simp; omega, fun r' hr' => ?_, fun r' hr' => ?_⟩⟩
        · rcases List.mem_append.mp hr' with hr' | hr'
          · exact hm r' hr'
          · rw [List.mem_singleton.mp hr']
            exact hl2
        · rcases List.mem_append.mp hr' with hr' | hr'
          · exact hx r' hr'
          · rw [List.mem_singleton.mp hr']
            exact hr
    · rintro env ⟨rs, s, t, rfl, hl, hm, hx⟩
      simp at hl
      exact q rs hl hm hx
  refine ⟨by omega, Nat.le_of_ble_eq_true rfl, ?_⟩
  refine ⟨p, _, rfl, by omega, by omega, fun r r0 r1 => ?_⟩
  refine ⟨Nat.le_of_ble_eq_true rfl, Nat.le_of_ble_eq_true rfl, p, _, _, rfl, rfl, by simp, Nat.le_of_ble_eq_true rfl, fun y hy => ?_⟩
  refine go y ?_
  have cs : y = .lst (Pd.upTo 0 (c + 1)) ∨ y = .lst [.int 0, .int c] ∨ y = .lst [.int 0, .int 0, .int c, .int r] := by simpa using hy
  rcases cs with rfl | rfl | rfl
  · refine ⟨_, rfl, fun z => ?_, ?_, fun d hd => ?_⟩
    · have := congrArg List.length z
      rw [upTo_length] at this
      simp at this
      omega
    · rw [upTo_length]
      omega
    · obtain ⟨i, rfl, i0, i1⟩ := upTo_mem hd
      exact ⟨i, rfl, i0, by omega⟩
  · refine ⟨_, rfl, by simp, Nat.le_of_ble_eq_true rfl, fun d hd => ?_⟩
    rcases List.mem_cons.mp hd with rfl | hd
    · exact ⟨0, rfl, by omega, by omega⟩
    · rw [List.mem_singleton.mp hd]
      exact ⟨c, rfl, by omega, by omega⟩
  · refine ⟨_, rfl, by simp, Nat.le_of_ble_eq_true rfl, fun d hd => ?_⟩
    have : d = .int 0 ∨ d = .int c ∨ d = .int r := by simpa using hd
    rcases this with rfl | rfl | rfl
    · exact ⟨0, rfl, by omega, by omega⟩
    · exact ⟨c, rfl, by omega, by omega⟩
    · exact ⟨r, rfl, by omega, by omega⟩
theorem len_L_grid (ds : List D) (Q : D → Prop) (Ex : Xc → Prop) (h : F_L_grid ds Q Ex) : ds.length = 4 := by
  obtain ⟨p, c, l, m, rfl, _⟩ := h
  rfl
end Ta

namespace Ta
open PySem PySem.Spec PyProof.Rows L2 LamX Pd
theorem wd_of {c : Int} {rs : List (List Int)} (t : Tb c rs) : 1 ≤ wd rs ∧ wd rs ≤ 12 ∧ ∀ r ∈ rs, r.length = wd rs := by
  obtain ⟨m, m1, m12, hm⟩ := t.w
  have l1 := t.l1
  cases rs with
  | nil => simp at l1
  | cons r rs =>
    have e : wd (r :: rs) = m := hm r List.mem_cons_self
    rw [e]
    exact ⟨m1, m12, hm⟩
theorem tb_flip {c : Int} {rs : List (List Int)} (t : Tb c rs) : Tb c (flip rs) := by
  obtain ⟨w1, w12, hw⟩ := wd_of t
  refine ⟨t.c1, t.c9, by unfold flip; simpa using w1, by unfold flip; simpa using w12, ⟨rs.length, t.l1, t.l12, fun r hr => ?_⟩, fun r hr x hx => ?_⟩
  · obtain ⟨j, hj, rfl⟩ := List.mem_map.mp hr
    exact List.length_map ..
  · obtain ⟨j, hj, rfl⟩ := List.mem_map.mp hr
    obtain ⟨r, hr, rfl⟩ := List.mem_map.mp hx
    have lt : j < r.length := by rw [hw r hr]; exact List.mem_range.mp hj
    rw [List.getD_eq_getElem?_getD, List.getElem?_eq_getElem lt]
    exact t.ce r hr _ (List.getElem_mem lt)
end Ta

namespace Ta
open PySem PySem.Spec PyProof.Rows L2 LamX Pd
theorem row_at {rs : List (List Int)} {i : Nat} (h : i < rs.length) : rs.getD i [] = rs[i] := by
  rw [List.getD_eq_getElem?_getD, List.getElem?_eq_getElem h]
  rfl
theorem idx_row {rs : List (List Int)} {i : Nat} (h : i < rs.length) : dIdx (lnD rs) (.int (i : Int)) = some (Ti (rs.getD i [])) := by
  refine idx_items rfl (by omega) ?_
  rw [Int.toNat_natCast, List.getElem?_map, List.getElem?_eq_getElem h, row_at h]
  rfl
theorem idx_int {r : List Int} {j : Nat} (h : j < r.length) : dIdx (Ti r) (.int (j : Int)) = some (.int (r.getD j 0)) := by
  refine idx_items rfl (by omega) ?_
  rw [Int.toNat_natCast, List.getElem?_map, List.getD_eq_getElem?_getD, List.getElem?_eq_getElem h]
  rfl
theorem len_row0 {c : Int} {rs : List (List Int)} (t : Tb c rs) : dIdx (lnD rs) (.int 0) = some (Ti (rs.getD 0 [])) ∧ ((rs.getD 0 []).map D.int).length = wd rs := by
  have l1 := t.l1
  obtain ⟨_, _, hw⟩ := wd_of t
  refine ⟨idx_row (i := 0) (by omega), ?_⟩
  rw [List.length_map, row_at (show 0 < rs.length by omega)]
  exact hw _ (List.getElem_mem _)
end Ta

namespace Qg
def sm : Nat → (Nat → Int) → Int
  | 0, _ => 0
  | n + 1, f => sm n f + f n
theorem sm_congr {f g : Nat → Int} : ∀ {n : Nat}, (∀ i, i < n → f i = g i) → sm n f = sm n g
  | 0, _ => rfl
  | n + 1, h => by simp only [sm]; rw [sm_congr fun i hi => h i (Nat.lt_succ_of_lt hi), h n (Nat.lt_succ_self n)]
theorem sm_le {f g : Nat → Int} : ∀ {n : Nat}, (∀ i, i < n → f i ≤ g i) → sm n f ≤ sm n g
  | 0, _ => Int.le_refl _
  | n + 1, h => by simp only [sm]; have a := sm_le fun i hi => h i (Nat.lt_succ_of_lt hi); have b := h n (Nat.lt_succ_self n); omega
theorem sm_eq_le {f g : Nat → Int} : ∀ {n : Nat}, (∀ i, i < n → f i ≤ g i) → sm n g ≤ sm n f → ∀ i, i < n → f i = g i
  | 0, _, _, _, hi => absurd hi (Nat.not_lt_zero _)
  | n + 1, h, e, i, hi => by
    simp only [sm] at e
    have a := sm_le (n := n) fun i hi => h i (Nat.lt_succ_of_lt hi)
    have b := h n (Nat.lt_succ_self n)
    rcases Nat.lt_succ_iff_lt_or_eq.mp hi with l | rfl
    · exact sm_eq_le (n := n) (fun i hi => h i (Nat.lt_succ_of_lt hi)) (by omega) i l
    · omega
theorem sm_add (f g : Nat → Int) : ∀ n : Nat, sm n (fun i => f i + g i) = sm n f + sm n g
  | 0 => rfl
  | n + 1 => by simp only [sm]; rw [sm_add f g n]; omega
theorem sm_sub (f g : Nat → Int) : ∀ n : Nat, sm n (fun i => f i - g i) = sm n f - sm n g
  | 0 => rfl
  | n + 1 => by simp only [sm]; rw [sm_sub f g n]; omega
theorem sm_const (c : Int) : ∀ n : Nat, sm n (fun _ => c) = c * n
  | 0 => by simp [sm]
  | n + 1 => by simp only [sm]; rw [sm_const c n]; push_cast; rw [Int.mul_add]; omega
theorem sm_mono {f : Nat → Int} {n : Nat} (h : ∀ i, i < n → 0 ≤ f i) : ∀ {k : Nat}, k ≤ n → sm k f ≤ sm n f := by
  induction n with
  | zero => intro k hk; cases Nat.le_zero.mp hk; exact Int.le_refl _
  | succ n ih =>
    intro k hk
    rcases Nat.le_succ_iff.mp hk with l | rfl
    · have a := ih (fun i hi => h i (Nat.lt_succ_of_lt hi)) l
      have b := h n (Nat.lt_succ_self n)
      simp only [sm]
      omega
    · exact Int.le_refl _
theorem sm_front (f : Nat → Int) : ∀ n : Nat, sm (n + 1) f = f 0 + sm n (fun j => f (j + 1))
  | 0 => by simp [sm]
  | n + 1 => by rw [sm, sm_front f n]; simp only [sm]; omega
def on (i j : Nat) : Int := if j = i then 1 else 0
theorem sm_on (i : Nat) : ∀ n : Nat, sm n (on i) = if i < n then 1 else 0
  | 0 => by simp [sm]
  | n + 1 => by
    simp only [sm]
    rw [sm_on i n]
    unfold on
    split <;> split <;> split <;> omega
def mv (i k : Nat) (f : Nat → Int) (j : Nat) : Int := f j - on i j + on k j
theorem sm_mv (i k : Nat) (f : Nat → Int) (n : Nat) : sm n (mv i k f) = sm n f - (if i < n then 1 else 0) + (if k < n then 1 else 0) := by
  unfold mv
  rw [sm_add (fun j => f j - on i j) (on k), sm_sub, sm_on, sm_on]
def Feas (cap : Int) (n : Nat) : (Nat → Int) → List Int → Prop
  | left, [] => ∀ i, i < n → left i = 0
  | left, c :: cs => ∃ x : Nat → Int, (∀ i, i < n → 0 ≤ x i ∧ x i ≤ cap) ∧ sm n x = c ∧ Feas cap n (fun i => left i - x i) cs
theorem feas_congr {cap : Int} {n : Nat} : ∀ {cs : List Int} {l l' : Nat → Int}, (∀ i, i < n → l i = l' i) → Feas cap n l cs → Feas cap n l' cs
  | [], l, l', h, a => fun i hi => by rw [← h i hi]; exact a i hi
  | c :: cs, l, l', h, ⟨x, a, b, d⟩ => ⟨x, a, b, feas_congr (fun i hi => by simp only [h i hi]) d⟩
theorem transfer {cap : Int} {n : Nat} : ∀ {cs : List Int} {l : Nat → Int} {i k : Nat}, i < n → k < n → l k < l i → Feas cap n l cs → Feas cap n (mv i k l) cs
  | [], l, i, k, hi, hk, lt, a => by have := a i hi; have := a k hk; omega
  | c :: cs, l, i, k, hi, hk, lt, ⟨x, a, b, d⟩ => by
    by_cases g : x k < x i
    · have ne : i ≠ k := fun e => by subst e; omega
      refine ⟨mv i k x, fun j hj => ?_, ?_, feas_congr (fun j hj => ?_) d⟩
      · have ai := a i hi; have ak := a k hk; have aj := a j hj
        unfold mv on
        split <;> split <;> subst_vars <;> first | omega | exact absurd rfl ne
      · rw [sm_mv, if_pos hi, if_pos hk, b]; omega
      · simp only [mv]; omega
    · refine ⟨x, a, b, feas_congr (fun j hj => ?_) (transfer (i := i) (k := k) hi hk (by show l k - x k < l i - x i; omega) d)⟩
      simp only [mv]; omega
def Good (cap : Int) (n : Nat) (l g : Nat → Int) : Prop :=
  (∀ i, i < n → 0 ≤ g i ∧ g i ≤ cap) ∧ ∀ i, i < n → ∀ k, k < n → 0 < g i → g k < cap → l k - g k ≤ l i - (g i - 1)
def rm (cap : Int) (cs : List Int) (k : Nat) : Int := (cs.map fun c => min (cap * k) c).sum
def clamp (cap c : Int) (i : Nat) : Int := min cap (max 0 (c - cap * i))
def fillrow (cap : Int) (cs : List Int) (i : Nat) : Int := (cs.map fun c => clamp cap c i).sum
theorem mul_succ' (cap : Int) (n : Nat) : cap * ((n + 1 : Nat) : Int) = cap * n + cap := by push_cast; rw [Int.mul_add]; omega
theorem clamp_bd {cap c : Int} (h : 0 ≤ cap) (i : Nat) : 0 ≤ clamp cap c i ∧ clamp cap c i ≤ cap := by unfold clamp; omega
theorem sm_clamp {cap c : Int} (hc : 0 ≤ c) (h : 0 ≤ cap) : ∀ n : Nat, sm n (clamp cap c) = min (cap * n) c
  | 0 => by simp [sm]; omega
  | n + 1 => by
    have e := mul_succ' cap n
    simp only [sm]
    rw [sm_clamp hc h n, e]
    unfold clamp
    have : 0 ≤ cap * n := Int.mul_nonneg h (by omega)
    omega
theorem sm_fillrow {cap : Int} (h : 0 ≤ cap) : ∀ (cs : List Int), (∀ c ∈ cs, 0 ≤ c) → ∀ n : Nat, sm n (fillrow cap cs) = rm cap cs n
  | [], _, n => by
    have : sm n (fillrow cap []) = sm n (fun _ => 0) := sm_congr fun i _ => rfl
    rw [this, sm_const]
    simp [rm]
  | c :: cs, hc, n => by
    have : sm n (fillrow cap (c :: cs)) = sm n (fun i => clamp cap c i + fillrow cap cs i) := sm_congr fun i _ => by simp [fillrow]
    rw [this, sm_add, sm_fillrow h cs (fun c hc' => hc c (List.mem_cons_of_mem _ hc')) n]
    show sm n (clamp cap c) + _ = _
    rw [sm_clamp (hc c List.mem_cons_self) h n]
    simp [rm]
theorem feas_fill {cap : Int} {n : Nat} (h : 0 ≤ cap) : ∀ (cs : List Int), (∀ c ∈ cs, 0 ≤ c ∧ c ≤ cap * n) → Feas cap n (fillrow cap cs) cs
  | [], _ => fun i _ => rfl
  | c :: cs, hc => ⟨clamp cap c, fun i _ => clamp_bd h i, by
      rw [sm_clamp (hc c List.mem_cons_self).1 h n]
      have := (hc c List.mem_cons_self).2
      omega, feas_congr (fun i _ => by simp [fillrow]; omega) (feas_fill h cs fun c hc' => hc c (List.mem_cons_of_mem _ hc'))⟩
theorem least_nat {P : Nat → Prop} (n : Nat) (h : P n) : ∃ k, k ≤ n ∧ P k ∧ ∀ j, j < k → ¬ P j := by
  induction n using Nat.strongRecOn with
  | _ n ih =>
    by_cases g : ∃ j, j < n ∧ P j
    · obtain ⟨j, lj, pj⟩ := g
      obtain ⟨k, hk, pk, mk⟩ := ih j lj pj
      exact ⟨k, by omega, pk, mk⟩
    · exact ⟨n, Nat.le_refl _, h, fun j lj pj => g ⟨j, lj, pj⟩⟩
theorem under_feas {cap : Int} {n : Nat} {a : Nat → Int} {cs : List Int} (so : ∀ i j, i ≤ j → j < n → a j ≤ a i) : ∀ (N : Nat) (b : Nat → Int), (∀ k, k ≤ n → sm k a ≤ sm k b) → sm n a = sm n b →
    sm (n + 1) (fun j => sm j b - sm j a) ≤ N → Feas cap n b cs → Feas cap n a cs := by
  intro N
  induction N with
  | zero =>
    intro b ub e d f
    have z := sm_eq_le (f := fun _ => 0) (g := fun j => sm j b - sm j a) (n := n + 1) (fun i hi => by have := ub i (by omega); omega) (by rw [sm_const]; simpa using d)
    refine feas_congr (fun i hi => ?_) f
    have z1 := z i (by omega)
    have z2 := z (i + 1) (by omega)
    simp only [sm] at z2
    omega
  | succ N ih =>
    intro b ub e d f
    by_cases all : ∀ i, i < n → a i = b i
    · exact feas_congr (fun i hi => (all i hi).symm) f
    have p : ∃ i, i < n ∧ a i ≠ b i := Classical.byContradiction fun no => all fun i hi => Classical.byContradiction fun q => no ⟨i, hi, q⟩
    obtain ⟨i0, h0, n0⟩ := p
    obtain ⟨i, hi, ⟨hin, hne⟩, hmin⟩ := least_nat (P := fun i => i < n ∧ a i ≠ b i) i0 ⟨h0, n0⟩
    have e1 : sm i a = sm i b := sm_congr fun j hj => Classical.byContradiction fun q => hmin j hj ⟨by omega, q⟩
    have u1 := ub (i + 1) (by omega)
    simp only [sm] at u1
    have lt1 : a i < b i := by omega
    obtain ⟨k, hk, ⟨hik, hkn, hek⟩, kmin⟩ := least_nat (P := fun k => i < k ∧ k < n ∧ sm (k + 1) a = sm (k + 1) b) (n - 1) ⟨by
      refine Classical.byContradiction fun q => ?_
      have : n = i + 1 := by omega
      subst this
      simp only [sm] at e
      omega, by omega, by rw [show n - 1 + 1 = n by omega]; exact e⟩
    have strict : ∀ j, i < j → j ≤ k → sm j a < sm j b := fun j h1 h2 => by
      have u := ub j (by omega)
      refine Classical.byContradiction fun q => ?_
      have e3 : sm j a = sm j b := by omega
      by_cases z : j = i + 1
      · subst z
        simp only [sm] at e3
        omega
      · exact kmin (j - 1) (by omega) ⟨by omega, by omega, by rw [show j - 1 + 1 = j by omega]; exact e3⟩
    have lk := strict k hik (Nat.le_refl _)
    simp only [sm] at hek
    have so1 := so i k (by omega) hkn
    have t := transfer (i := i) (k := k) hin hkn (by omega) f
    refine ih (mv i k b) (fun j hj => ?_) ?_ ?_ t
    · rw [sm_mv]
      have u := ub j hj
      have st := strict j
      split <;> split <;> omega
    · rw [sm_mv, if_pos hin, if_pos hkn]; omega
    · have s := sm_le (n := n + 1) (f := fun j => sm j (mv i k b) - sm j a) (g := fun j => sm j b - sm j a - on (i + 1) j) (fun j hj => by
        simp only [sm_mv]
        unfold on
        split <;> split <;> split <;> omega)
      rw [sm_sub (fun j => sm j b - sm j a) (on (i + 1)), sm_on, if_pos (by omega)] at s
      push_cast at d
      omega
def fn (l : List Int) (i : Nat) : Int := l.getD i 0
theorem sm_fn : ∀ l : List Int, sm l.length (fn l) = l.sum
  | [] => rfl
  | x :: l => by
    rw [List.length_cons, sm_front]
    have : (fun j => fn (x :: l) (j + 1)) = fn l := by funext j; simp [fn]
    rw [this, sm_fn l]
    simp [fn]
theorem fn_take : ∀ (l : List Int) (k : Nat), k ≤ l.length → sm k (fn l) = (l.take k).sum
  | _, 0, _ => by simp [sm]
  | [], k + 1, h => by simp at h
  | x :: l, k + 1, h => by
    rw [sm_front]
    have : (fun j => fn (x :: l) (j + 1)) = fn l := by funext j; simp [fn]
    rw [this, fn_take l k (by simpa using h)]
    simp [fn]
theorem perm_sum {l l' : List Int} (p : l.Perm l') : l.sum = l'.sum := by
  induction p with
  | nil => rfl
  | cons x _ ih => simp [ih]
  | swap x y l => simp; omega
  | trans _ _ a b => exact a.trans b
theorem sm_range (f : Nat → Int) : ∀ n : Nat, sm n f = ((List.range n).map f).sum
  | 0 => rfl
  | n + 1 => by rw [List.range_succ, List.map_append, List.sum_append, ← sm_range f n]; simp [sm]
theorem pull {α β : Type} (f : α → β) {ys ys' : List β} (p : ys.Perm ys') : ∀ zs : List α, zs.map f = ys → ∃ zs' : List α, zs'.Perm zs ∧ zs'.map f = ys' := by
  induction p with
  | nil => intro zs h; exact ⟨zs, .refl _, h⟩
  | cons x p ih =>
    intro zs h
    cases zs with
    | nil => cases h
    | cons z zs =>
      simp only [List.map_cons, List.cons.injEq] at h
      obtain ⟨zs', q, e⟩ := ih zs h.2
      exact ⟨z :: zs', q.cons z, by simp [h.1, e]⟩
  | swap x y l =>
    intro zs h
    match zs, h with
    | a :: b :: zs, h =>
      simp only [List.map_cons, List.cons.injEq] at h
      exact ⟨b :: a :: zs, .swap a b zs, by simp [h.1, h.2.1, h.2.2]⟩
  | trans _ _ ih1 ih2 =>
    intro zs h
    obtain ⟨z1, q1, e1⟩ := ih1 zs h
    obtain ⟨z2, q2, e2⟩ := ih2 z1 e1
    exact ⟨z2, q2.trans q1, e2⟩
theorem map_fn_range (l : List Int) : (List.range l.length).map (fn l) = l := by
  apply List.ext_getElem
  · simp
  · intro i h1 h2
    simp [fn, List.getD_eq_getElem?_getD, h2]
theorem order_of {l l' : List Int} (p : l.Perm l') : ∃ o : List Nat, o.Perm (List.range l.length) ∧ o.map (fn l) = l' := pull (fn l) p _ (map_fn_range l)
theorem sm_order {o : List Nat} {n : Nat} (p : o.Perm (List.range n)) (f : Nat → Int) : sm n (fun i => f (o.getD i 0)) = sm n f := by
  have hl : o.length = n := by rw [p.length_eq]; simp
  rw [sm_range, sm_range]
  have e : (List.range n).map (fun i => f (o.getD i 0)) = o.map f := by
    apply List.ext_getElem
    · simp [hl]
    · intro i h1 h2
      simp at h2
      simp [List.getD_eq_getElem?_getD, h2]
  rw [e]
  exact perm_sum (p.map f)
theorem order_lt {o : List Nat} {n : Nat} (p : o.Perm (List.range n)) {i : Nat} (h : i < n) : o.getD i 0 < n := by
  have hl : o.length = n := by rw [p.length_eq]; simp
  have : o.getD i 0 ∈ o := by simp [List.getD_eq_getElem?_getD, hl, h]
  have := p.mem_iff.mp this
  simpa using this
theorem feas_order {cap : Int} {n : Nat} {o : List Nat} (p : o.Perm (List.range n)) : ∀ {cs : List Int} {l : Nat → Int}, Feas cap n l cs → Feas cap n (fun i => l (o.getD i 0)) cs
  | [], l, h => fun i hi => h _ (order_lt p hi)
  | c :: cs, l, ⟨x, a, b, d⟩ => ⟨fun i => x (o.getD i 0), fun i hi => a _ (order_lt p hi), by rw [sm_order p]; exact b, feas_order p d⟩
theorem feas_perm {cap : Int} {l l' : List Int} (p : l.Perm l') {cs : List Int} (f : Feas cap l.length (fn l) cs) : Feas cap l'.length (fn l') cs := by
  obtain ⟨o, q, e⟩ := order_of p
  rw [← p.length_eq]
  refine feas_congr (fun i hi => ?_) (feas_order q f)
  have hl : o.length = l.length := by rw [q.length_eq]; simp
  subst e
  simp [fn, List.getD_eq_getElem?_getD, hl, hi]
theorem feas_need {cap : Int} {n : Nat} : ∀ {cs : List Int} {l : Nat → Int}, Feas cap n l cs → sm n l = cs.sum ∧ ∀ k, k ≤ n → sm k l ≤ rm cap cs k
  | [], l, h => by
    have z : ∀ k, k ≤ n → sm k l = 0 := fun k hk => by rw [sm_congr (g := fun _ => 0) fun i hi => h i (by omega), sm_const]; simp
    exact ⟨by rw [z n (Nat.le_refl _)]; rfl, fun k hk => by rw [z k hk]; simp [rm]⟩
  | c :: cs, l, ⟨x, a, b, d⟩ => by
    have r := feas_need d
    refine ⟨by have := r.1; rw [sm_sub] at this; simp; omega, fun k hk => ?_⟩
    have := r.2 k hk
    rw [sm_sub] at this
    have m1 := sm_mono (fun i hi => (a i hi).1) hk
    have m2 := sm_le (n := k) (fun i hi => (a i (Nat.lt_of_lt_of_le hi hk)).2)
    rw [sm_const] at m2
    have : rm cap (c :: cs) k = min (cap * k) c + rm cap cs k := by simp [rm]
    omega

theorem rm_le_sum (cap : Int) (k : Nat) : ∀ cs : List Int, rm cap cs k ≤ cs.sum
  | [] => by simp [rm]
  | c :: cs => by
    have := rm_le_sum cap k cs
    have : rm cap (c :: cs) k = min (cap * k) c + rm cap cs k := by simp [rm]
    rw [List.sum_cons]
    omega
theorem rm_full {cap : Int} {k : Nat} : ∀ {cs : List Int}, cs.sum ≤ rm cap cs k → ∀ c ∈ cs, c ≤ cap * k
  | [], _, c, hc => nomatch hc
  | d :: cs, h, c, hc => by
    have a := rm_le_sum cap k cs
    have e : rm cap (d :: cs) k = min (cap * k) d + rm cap cs k := by simp [rm]
    rw [List.sum_cons] at h
    rcases List.mem_cons.mp hc with rfl | hc
    · omega
    · exact rm_full (cs := cs) (by omega) c hc
theorem fn_mem {l : List Int} {i : Nat} (h : i < l.length) : fn l i ∈ l := by simp [fn, List.getD_eq_getElem?_getD, h]
theorem has_iff {cap : Int} {lines cols d : List Int} (h : 0 ≤ cap) (hc : ∀ c ∈ cols, 0 ≤ c) (p : d.Perm lines) (so : d.Pairwise fun a b => b ≤ a) :
    Feas cap lines.length (fn lines) cols ↔ lines.sum = cols.sum ∧ ∀ k, k ≤ lines.length → (d.take k).sum ≤ rm cap cols k := by
  have ln := p.length_eq
  have ps := perm_sum p
  constructor
  · intro f
    have g := feas_need (feas_perm p.symm f)
    refine ⟨?_, fun k hk => ?_⟩
    · rw [← ps, ← sm_fn]; exact g.1
    · rw [← fn_take d k (by omega)]; exact g.2 k (by omega)
  · rintro ⟨e, b⟩
    refine feas_perm p ?_
    have all := b lines.length (Nat.le_refl _)
    rw [List.take_of_length_le (by omega), ps, e] at all
    have big := rm_full all
    have so2 : ∀ i j, i ≤ j → j < d.length → fn d j ≤ fn d i := fun i j hij hj => by
      rcases Nat.lt_or_eq_of_le hij with l | rfl
      · have := List.pairwise_iff_getElem.mp so i j (by omega) hj l
        simpa [fn, List.getD_eq_getElem?_getD, hj, show i < d.length by omega] using this
      · exact Int.le_refl _
    have ff := feas_fill (n := d.length) h cols fun c hc' => ⟨hc c hc', by rw [ln]; exact big c hc'⟩
    refine under_feas so2 (sm (d.length + 1) fun j => sm j (fillrow cap cols) - sm j (fn d)).toNat (fillrow cap cols) (fun k hk => ?_) ?_ (by omega) ff
    · rw [sm_fillrow h cols hc, fn_take d k hk]; exact b k (by omega)
    · rw [sm_fillrow h cols hc, sm_fn, ps, e]
      have := rm_le_sum cap d.length cols
      rw [ln]; rw [ln] at this
      omega
def cel (gs : List (List Int)) (i : Nat) : Int := (gs.map fun g => fn g i).sum
end Qg

namespace Pd
open PySem PySem.Spec PyProof.Rows L2 LamX
section
variable {X : Cx} {T : List (Addr × Str)} {E : XK} {k : Nat}
inductive JJ (T : List (Addr × Str)) (X : Cx) (E : XK) : List Expr → List (W D) → Prop where
  | nil : JJ T X E [] []
  | cons {e : Expr} {a : W D} {es : List Expr} {ws : List (W D)} (h : JE T X E e a) (r : JJ T X E es ws) : JJ T X E (e :: es) (a :: ws)
theorem JJ.pj {es : List Expr} {ws : List (W D)} (h : JJ T X E es ws) : PJ X es (ws.map fun w => lift X.K T (rE X.K) E w) := by
  induction h with
  | nil => exact .nil
  | cons h _ ih => exact .cons h ih
end
end Pd

namespace Pd
open PySem PySem.Spec PyProof.Rows L2 LamX
section
variable {X : Cx} {T : List (Addr × Str)} {E : XK} {k : Nat} {tg tg1 : Expr}
end
section
variable {X : Cx} {T : List (Addr × Str)} {E : XK} {k : Nat}
end
end Pd

namespace Pd
open PySem PySem.Spec PyProof.Rows L2 LamX
inductive Pt where
  | s (t : Str)
  | v (i : Nat)
def ptsW : List Pt → List D → List (Nat × D) → (Option (List (Nat × D)) → Prop) → Prop
  | [], [], acc, k => k (some acc)
  | .v i :: ps, x :: xs, acc, k => ptsW ps xs (acc ++ [(i, x)]) k
  | .s t :: ps, x :: xs, acc, k => (plain 60 x = true ∧ PyData.strOk t = true) ∧ br (eqb x (.str t)) (ptsW ps xs acc k) (k none)
  | _, _, _, _ => False
def setsE (env : PEnv) (bs : List (Nat × D)) : PEnv := bs.foldl (fun e b => e.set b.1 (some (.d b.2))) env
abbrev WM := D → PEnds → PEnv → Prop
def mcNil : WM := fun _ pe env => pe.nx env
def mcSeq (ps : List Pt) (b : WS) (m : WM) : WM := fun d pe env => match d with
  | .tup xs => br (decide (xs.length = ps.length)) (ptsW ps xs [] fun o => match o with | some bs => b pe (setsE env bs) | none => m d pe env) (m d pe env)
  | .lst xs => br (decide (xs.length = ps.length)) (ptsW ps xs [] fun o => match o with | some bs => b pe (setsE env bs) | none => m d pe env) (m d pe env)
  | _ => False
def sMatch (w : W D) (m : WM) : WS := fun pe env => w env (fun d env' => m d pe env') pe.ex
section
variable {X : Cx} {T : List (Addr × Str)} {E : XK} {k : Nat}
inductive PtOk (X : Cx) : Pt → Pattern → Prop
  | s {t : Str} {j : Nat} {p p' : Pos} : PtOk X (.s t) (.MatchValue (.Constant (.str t) j p) p')
  | v {i : Nat} {x : Str} {p : Pos} : X.N[i]? = some x → Loc X.env.scope x → (X.fn x = true ∨ X.env.scope.names.lookup x = some .local) → PtOk X (.v i) (.MatchAs none (some x) p)
inductive PtsOk (X : Cx) : List Pt → List Pattern → Prop
  | nil : PtsOk X [] []
  | cons {a : Pt} {p : Pattern} {as : List Pt} {ps : List Pattern} : PtOk X a p → PtsOk X as ps → PtsOk X (a :: as) (p :: ps)
theorem PtsOk.len {as : List Pt} {ps : List Pattern} (h : PtsOk X as ps) : as.length = ps.length := by
  induction h with
  | nil => rfl
  | cons _ _ ih => rw [List.length_cons, List.length_cons, ih]
inductive Rb (X : Cx) (wd : Wd) : List (Str × Value) → List (Nat × D) → Prop
  | nil : Rb X wd [] []
  | cons {x : Str} {u : Value} {i : Nat} {d : D} {v : V} {bs : List (Str × Value)} {is : List (Nat × D)} : X.N[i]? = some x → Loc X.env.scope x → (X.fn x = true ∨ X.env.scope.names.lookup x = some .local) → RelV v u → Rep X.K wd v d → Rb X wd bs is → Rb X wd ((x, u) :: bs) ((i, d) :: is)
theorem Rb.mono {wd wd' : Wd} (le : Le wd wd') {bs : List (Str × Value)} {is : List (Nat × D)} (h : Rb X wd bs is) : Rb X wd' bs is := by
  induction h with
  | nil => exact .nil
  | cons a b c d e _ ih => exact .cons a b c d (e.mono le) ih
theorem bind_all (hN : X.N.Nodup) {pins : List (Addr × Obj)} {c : Ctx} {wd : Wd} {H : Hp} {E' : Value → Shared → Prop} {bs : List (Str × Value)} {is : List (Nat × D)} (h : Rb X wd bs is) :
    ∀ {s : Shared} {σ : L2.St} {env : PEnv} {Q : Unit → Shared → Prop}, Inv X pins σ H s → Rel X.K T c wd env σ H → (∀ s' σ', Inv X pins σ' H s' → Rel X.K T c wd (setsE env is) σ' H → Q () s') →
    wpAny (model X.prog X.w) X.A (assignInOrder (bs.map fun (n, _) => bindName X.env n) (bs.map (·.2))) Q E' s := by
  induction h with
  | nil => exact fun I r q => assignInOrder_nil (q _ _ I r)
  | cons a b c d e _ ih => exact fun I r q => assignInOrder_cons (wpAny_bindName (store_ok I hN a b d (fun s2 I2 => ih I2 (r.set e) q) c))
theorem asks_text (hu : X.A.units + 64 < cLine) {pins : List (Addr × Obj)} {s : Shared} {σ : L2.St} {H : Hp} {c : Ctx} {wd : Wd} {env : PEnv} {x : D} {v : V} {u : Value} {t : Str} {j : Nat} {p p' : Pos} {Q : Option (List (Str × Value)) → Shared → Prop}
    (I : Inv X pins σ H s) (r : Rel X.K T c wd env σ H) (rv : RelV v u) (rd : Rep X.K wd v x) (hx : plain 60 x = true) (ht : PyData.strOk t = true)
    (hq : ∀ s' wd' H', Le wd wd' → Inv X pins σ H' s' → Rel X.K T c wd' env σ H' → Q (if eqb x (.str t) = true then some [] else none) s') :
    wpAny (model X.prog X.w) X.A (matchPattern (.MatchValue (.Constant (.str t) j p) p') X.env u) Q X.xe s := by
  obtain ⟨r2, ho, hd⟩ := (opD_eq (X := X) hu).ex
  refine wpAny_matchPattern_Value (thn ((pe_str (X := X)).run pins s σ H (fun v' H' => v' = .str t ∧ H' = H) I ⟨rfl, rfl⟩) fun u1 s1 ⟨v1, H1, I1, rv1, e1, e2⟩ => ?_)
  subst e1 e2
  have e : dEq x (.str t) = some (.bl (eqb x (.str t))) := by
    unfold dEq
    rw [hx, show plain 60 (.str t) = true from ht]
    rfl
  refine thn (ho pins s1 σ H1 v (.str t) u u1 (fun w H' => ∃ wd', w = .bl (eqb x (.str t)) ∧ Grow wd H1 wd' H') I1 rv rv1 (hd x (.str t) _ e T wd H1 v (.str t) _ r.good rd (.str t) fun w wd' H' g rp => ⟨wd', by cases rp; rfl, g⟩)) fun u2 s2 ⟨v2, H2, I2, rv2, wd2, e3, g⟩ => ?_
  subst e3
  cases rv2
  refine wpAny_truthy_bool ?_
  have := hq s2 wd2 H2 (g.le r.good) I2 (r.grow g)
  cases hb : eqb x (.str t)
  · rw [hb] at this
    exact this
  · rw [hb] at this
    exact this
theorem each_run (hu : X.A.units + 64 < cLine) {pins : List (Addr × Obj)} {σ : L2.St} {c : Ctx} {env : PEnv} {K : Option (List (Nat × D)) → Prop} {as : List Pt} {ps : List Pattern} (h : PtsOk X as ps) :
    ∀ {s : Shared} {H : Hp} {wd : Wd} {us : List Value} {vs : List V} {xs : List D} {acc : List (Nat × D)}, Inv X pins σ H s → Rel X.K T c wd env σ H → Vals vs us → Reps X.K wd vs xs → ptsW as xs acc K →
    wpAny (model X.prog X.w) X.A (matchEach ps X.env us) (fun r s' => ∃ wd' H', Le wd wd' ∧ Inv X pins σ H' s' ∧ Rel X.K T c wd' env σ H' ∧ match r with | none => K none | some bs => ∃ is, Rb X wd' bs is ∧ K (some (acc ++ is))) X.xe s := by
  induction h with
  | nil =>
    intro s H wd us vs xs acc I r rv rd k
    refine wpAny_matchEach_nil ⟨wd, H, Le.refl _, I, r, [], .nil, ?_⟩
    cases xs with
    | nil => rw [List.append_nil]; exact k
    | cons _ _ => exact k.elim
  | cons ha _ ih =>
    intro s H wd us vs xs acc I r rv rd k
    cases ha with
    | s =>
      cases rd with
      | nil => exact k.elim
      | cons rx rds =>
        cases rv with
        | cons rvx rvs =>
          obtain ⟨⟨hx, ht⟩, k⟩ := k
          refine wpAny_matchEach_cons (asks_text hu I r rvx rx hx ht fun s1 wd1 H1 le1 I1 r1 => ?_)
          unfold br at k
          split
          · rename_i e
            split at e
            · cases e
            · rename_i hb
              rw [Bool.not_eq_true] at hb
              rw [hb] at k
              exact ⟨wd1, H1, le1, I1, r1, k⟩
          · rename_i bs e
            split at e
            · rename_i hb
              cases e
              rw [hb] at k
              refine thn (ih I1 r1 rvs (rds.mono le1) k) fun r' s2 ⟨wd2, H2, le2, I2, r2, q⟩ => ?_
              cases r' with
              | none => exact ⟨wd2, H2, le1.trans le2, I2, r2, q⟩
              | some more => exact ⟨wd2, H2, le1.trans le2, I2, r2, q⟩
            · cases e
    | v a b d =>
      cases rd with
      | nil => exact k.elim
      | cons rx rds =>
        cases rv with
        | cons rvx rvs =>
          refine wpAny_matchEach_cons (wpAny_matchPattern_Capture ?_)
          refine thn (ih I r rvs rds k) fun r' s2 ⟨wd2, H2, le2, I2, r2, q⟩ => ?_
          cases r' with
          | none => exact ⟨wd2, H2, le2, I2, r2, q⟩
          | some more =>
            obtain ⟨is, hr, q⟩ := q
            refine ⟨wd2, H2, le2, I2, r2, _ :: is, .cons a b d rvx (rx.mono le2) hr, ?_⟩
            rw [List.append_assoc] at q
            exact q
structure JMc (T : List (Addr × Str)) (X : Cx) (E : XK) (cs : List MatchCase) (m : WM) : Prop where
  run : ∀ (pins : List (Addr × Obj)) (s : Shared) (σ : L2.St) (H : Hp) (D : Ends) (c : Ctx) (wd : Wd) (env : PEnv) (pe : PEnds) (v : V) (u : Value) (d : Pd.D) (first : Bool), Inv X pins σ H s → RelV v u → Rel X.K T c wd env σ H → Rep X.K wd v d → m d pe env → EndsOk X.K T c wd E pe D →
    wpAny (model X.prog X.w) X.A (matchCases cs X.env u first) (SP X pins D) X.xe s
theorem jc_nil : JMc T X E [] mcNil := ⟨fun pins s σ H D c wd env pe v u d first I rv r rd h o => wpAny_matchCases_nil ⟨σ, H, I, o.nx env h σ wd H (Le.refl _) r⟩⟩
theorem js_match {e : Expr} {cs : List MatchCase} {w : W D} {m : WM} {pos : Pos} (he : JE T X E e w) (hc : JMc T X E cs m) : JS T X E (.Match e cs pos) (sMatch w m) :=
  ⟨fun pins s σ H D I ⟨c, wd, env, pe, r, h, o⟩ => wpAny_Match (thn (he.run pins s σ H (fun v H1 => ∃ d env1 wd1, Le wd wd1 ∧ Rel X.K T c wd1 env1 σ H1 ∧ Rep X.K wd1 v d ∧ m d pe env1) I ⟨c, wd, env, _, _, r, h, o.ex, fun d env1 h1 v wd1 H1 le1 r1 rp1 => ⟨d, env1, wd1, le1, r1, rp1, h1⟩⟩)
    fun u s1 ⟨v, H1, I1, rv, d, env1, wd1, le1, r1, rp1, h1⟩ => hc.run pins s1 σ H1 D c wd1 env1 pe v u d true I1 rv r1 rp1 h1 (o.mono le1))⟩
theorem fits {n : Nat} (h : n ≤ sizeLine) : (n : Int) < 2 ^ 63 := by
  rw [sizeLine_eq] at h
  omega
theorem jc_seq {as : List Pt} {ps : List Pattern} {b : WS} {m : WM} {body : List Stmt} {rest : List MatchCase} {pp : Pos} (B : Bd X E k) (hu : X.A.units + 64 < cLine) (h : PtsOk X as ps) (hb : JSs T X E body b) (hr : JMc T X E rest m)
    (hstar : ps.findIdx? (·.isStar) = none := by rfl) (hwild : (ps.all fun p => p.isWildcard || (p.isStar && p.names.isEmpty)) = false := by rfl) : JMc T X E (⟨.MatchSequence ps pp, none, body⟩ :: rest) (mcSeq as b m) := by
  refine ⟨fun pins s σ H D c wd env pe v u d first I rv r rd h1 o => ?_⟩
  have go : ∀ (xs : List Pd.D) (vs : List V) (its : List Value) (s1 : Shared), m d pe env = m d pe env → Inv X pins σ H s1 → Vals vs its → Reps X.K wd vs xs →
      (ptsW as xs [] fun o => match o with | some bs => b pe (setsE env bs) | none => m d pe env) →
      wpAny (model X.prog X.w) X.A (matchEach ps X.env its) (fun r s₁ => match r with
        | none => wpAny (model X.prog X.w) X.A (matchCases rest X.env u false) (SP X pins D) X.xe s₁
        | some bs => wpAny (model X.prog X.w) X.A (assignInOrder (bs.map fun (n, _) => bindName X.env n) (bs.map (·.2))) (fun _ s₂ => wpAny (model X.prog X.w) X.A (execs body X.env) (SP X pins D) X.xe s₂) X.xe s₁) X.xe s1 := by
    intro xs vs its s1 _ I1 rvs rds k1
    refine thn (each_run hu h I1 r rvs rds k1) fun o' s2 ⟨wd2, H2, le2, I2, r2, q⟩ => ?_
    cases o' with
    | none => exact hr.run pins s2 σ H2 D c wd2 env pe v u d false I2 rv r2 (rd.mono le2) q (o.mono le2)
    | some bs =>
      obtain ⟨is, hb2, q⟩ := q
      exact bind_all B.nd hb2 I2 r2 fun s3 σ3 I3 r3 => hb.run pins s3 σ3 H2 D I3 ⟨c, wd2, _, pe, r3, q, o.mono le2⟩
  have miss : ∀ s1, Inv X pins σ H s1 → m d pe env → wpAny (model X.prog X.w) X.A (matchCases rest X.env u false) (SP X pins D) X.xe s1 := fun s1 I1 q => hr.run pins s1 σ H D c wd env pe v u d false I1 rv r rd q o
  have len := h.len
  refine wpAny_matchCases_cons ?_
  cases rd with
  | tup hs rs =>
    rename_i a vs xs
    cases rv
    obtain ⟨its, rvs, ht, hz⟩ := I.tuple (sub_sqT r.good hs)
    have el : its.toArray.size = xs.length := by rw [List.size_toArray, ← rvs.length, rs.length]
    have hf : (its.toArray.size : Int) < 2 ^ 63 := by
      rw [List.size_toArray, ← rvs.length]
      exact fits hz
    have h1 : br (decide (xs.length = as.length)) (ptsW as xs [] fun o => match o with | some bs => b pe (setsE env bs) | none => m (.tup xs) pe env) (m (.tup xs) pe env) := h1
    by_cases e : xs.length = as.length
    · rw [decide_eq_true e] at h1
      have e2 : its.toArray.size = ps.length := by rw [el, e, len]
      refine matchSeq_tuple_hit ht hf e2 ?_ hstar hwild
      rw [← e2]
      refine unpackItems_tuple (I.ok.hd B.calm) ht fun h' hx => ?_
      exact go xs vs its _ rfl (Inv.kept (I.tok _) (t' := _) fun b o e => hx b o (Nat.ne_of_lt (Heap.lt_size e)) e) rvs rs (br_t h1)
    · rw [decide_eq_false e] at h1
      exact matchSeq_tuple_miss ht hf (by rw [el, ← len]; exact e) (miss _ (I.tok _) (br_f h1)) hstar hwild
  | lst hs rs =>
    rename_i a vs xs
    cases rv
    obtain ⟨its, rvs, ht, hz⟩ := I.list (.inl (.inl (r.good.sub _ _ hs)))
    have el : its.toArray.size = xs.length := by rw [List.size_toArray, ← rvs.length, rs.length]
    have hf : (its.toArray.size : Int) < 2 ^ 63 := by
      rw [List.size_toArray, ← rvs.length]
      exact fits hz
    have h1 : br (decide (xs.length = as.length)) (ptsW as xs [] fun o => match o with | some bs => b pe (setsE env bs) | none => m (.lst xs) pe env) (m (.lst xs) pe env) := h1
    by_cases e : xs.length = as.length
    · rw [decide_eq_true e] at h1
      have e2 : its.toArray.size = ps.length := by rw [el, e, len]
      refine matchSeq_list_hit ht.isList hf e2 ?_ hstar hwild
      rw [← e2]
      refine PySem.W.kun_itemsOf (I.ok.hd B.calm) ht.isList fun h' hx => ?_
      exact go xs vs its _ rfl (Inv.kept (I.tok _) (t' := _) fun b o e => hx b o (Nat.ne_of_lt (Heap.lt_size e)) e) rvs rs (br_t h1)
    · rw [decide_eq_false e] at h1
      exact matchSeq_list_miss ht.isList hf (by rw [el, ← len]; exact e) (miss _ (I.tok _) (br_f h1)) hstar hwild
  | _ => exact h1.elim
end
end Pd

namespace Zk
open PySem PySem.Spec PyProof.Rows L2 LamX NdefX
section
variable {P : Program} {w : World} {A : Around} {env : Env} {h0 : Heap}
theorem GivesI.mono {e : Expr} {i : Int} {h1 : Heap} (h : GivesI P w A env h0 e i) (g : Grow h0 h1) : GivesI P w A env h1 e i :=
  fun s Q E g2 q => h s Q E (g.then g2) q
end
end Zk

namespace Pd
open PySem PySem.Spec PyProof.Rows L2 LamX NdefX
inductive KX where
  | ix (j : Nat)
  | sub (a b : KX)
def KX.val (rows : Nat → List Int) (i : Int) : KX → Int
  | .ix j => (rows j).getD i.toNat 0
  | .sub a b => a.val rows i - b.val rows i
section
variable {X : Cx} {T : List (Addr × Str)} {E : XK} {k : Nat}
end
end Pd

namespace Pd
open PySem PySem.Spec PyProof.Rows L2 LamX
section
variable {K : PySem.W.Frag} {X : Cx} {T : List (Addr × Str)} {E : XK} {k : Nat} {c : Ctx} {wd : Wd} {env : PEnv} {σ : L2.St} {H : Hp}
end
end Pd

namespace Zn
open PySem
section
variable {prog : Program} {w : World} {A : Around} {E : Value → Shared → Prop} {s : Shared}
end
end Zn

namespace Zn
open PySem PySem.F
section
variable {prog : Program} {w : World} {A : Around} {E : Value → Shared → Prop} {s : Shared}
end
end Zn
namespace Zn
open PySem PySem.Spec PyProof.Rows L2
end Zn
namespace Zn
open PySem PySem.Spec PyProof.Rows L2
section
variable {M : Model} {A : Around} {E : Value → Shared → Prop} {s : Shared} {env : Env}
end
end Zn
namespace Pd
open PySem PySem.Spec PyProof.Rows L2 LamX Zn
section
variable {X : Cx} {T : List (Addr × Str)} {E : XK} {k : Nat}
end
end Pd

namespace Tq
open PySem PySem.Spec PyProof.Rows L2 LamX Pd
open Ta (Tb lnD tbD wd lsum csum badN)
abbrev F_is_integer := Ta.F_is_integer
abbrev F_is_from := Ta.F_is_from
abbrev F_is_cap := Ta.F_is_cap
structure Cn (m : Nat) (r : List Int) : Prop where
  l1 : 1 ≤ r.length
  lm : r.length ≤ m
  ce : ∀ x ∈ r, 0 ≤ x ∧ x ≤ 999999999999999999999999999999
def grow (c : Int) (r : List Int) (m : Nat) : List Int := (List.range m).map (Qg.fillrow c r)
def bar (c : Int) (l r : List Int) : Int := match (List.range l.length).find? fun k => decide (Qg.rm c r (k + 1) < ((dn l).take (k + 1)).sum) with
  | some k => (k : Int) + 1
  | none => 0
def has (c : Int) (l r : List Int) : Bool := decide (l.sum = r.sum) && decide (bar c l r = 0)
abbrev smD (c : Int) (l r : List Int) : D := .tup [.str "table", .int c, Ti l, Ti r]
def F_is_count : Fn := fun ds Q _ => ∃ x : Int, ds = [.int x] ∧ 0 ≤ x ∧ x ≤ 999999999999999999999999999999 ∧ Q (.bl true)
def F_are_counts : Fn := fun ds Q _ => ∃ (r : List Int) (m : Nat), ds = [Ti r, .int (m : Int)] ∧ Cn m r ∧ Q (.bl true)
def F_room : Fn := fun ds Q _ => ∃ (c : Int) (m : Nat) (r : List Int), ds = [.int c, .int (m : Int), Ti r] ∧ 0 ≤ c ∧ c ≤ 9 ∧ Q (.int (Qg.rm c r m))
def F_is_sums : Fn := fun ds Q _ => ∃ c l r, ds = [smD c l r] ∧ 1 ≤ c ∧ c ≤ 9 ∧ Cn 12 l ∧ Cn 12 r ∧ Q (.bl true)
def F_require_table_sums : Fn := fun ds Q _ => ∃ c l r, ds = [smD c l r] ∧ 1 ≤ c ∧ c ≤ 9 ∧ Cn 12 l ∧ Cn 12 r ∧ Q .non
end Tq

namespace Tq
open PySem PySem.Spec PyProof.Rows L2 LamX Pd
open Ta (Tb lnD tbD badN)
mutual
theorem eqb_self : ∀ (n : Nat) (x : D), plain n x = true → eqb x x = true
  | 0, x, h => by cases h
  | n + 1, .non, _ => rfl
  | n + 1, .bl b, _ => by simp [eqb]
  | n + 1, .int b, _ => by simp [eqb]
  | n + 1, .str b, _ => by simp [eqb]
  | n + 1, .tup xs, h => eqbs_self n xs h
  | n + 1, .lst xs, h => eqbs_self n xs h
  | n + 1, .scr _, h => by cases h
  | n + 1, .dic _, h => by cases h
  | n + 1, .dit _, h => by cases h
  | n + 1, .ins _ _, h => by cases h
  | n + 1, .box _, h => by cases h
  | n + 1, .raw _, h => by cases h
theorem eqbs_self : ∀ (n : Nat) (xs : List D), xs.all (plain n) = true → eqbs xs xs = true
  | n, [], _ => rfl
  | n, x :: xs, h => by
    rw [List.all_cons, Bool.and_eq_true] at h
    show (eqb x x && eqbs xs xs) = true
    rw [eqb_self n x h.1, eqbs_self n xs h.2]
    rfl
end
theorem ne_self {x : D} {env : PEnv} {Q : D → PEnv → Prop} (h : plain 60 x = true) (q : Q (.bl false) env) : fNe x x env Q := by
  refine ⟨by rw [h]; rfl, ?_⟩
  rw [eqb_self 60 x h]
  exact q
theorem eq_self {x : D} {env : PEnv} {Q : D → PEnv → Prop} (h : plain 60 x = true) (q : Q (.bl true) env) : fEq x x env Q := by
  refine ⟨by rw [h]; rfl, ?_⟩
  rw [eqb_self 60 x h]
  exact q
theorem eqb_ints : ∀ (a b : List Int), eqbs (a.map D.int) (b.map D.int) = decide (a = b)
  | [], [] => rfl
  | [], b :: bs => by simp [eqbs]
  | a :: as, [] => by simp [eqbs]
  | a :: as, b :: bs => by
    show (decide (a = b) && eqbs (as.map D.int) (bs.map D.int)) = _
    rw [eqb_ints as bs]
    by_cases h : a = b
    · simp [h]
    · simp [h]
theorem eqb_Ti (a b : List Int) : eqb (Ti a) (Ti b) = decide (a = b) := eqb_ints a b
theorem pl_Ti (n : Nat) (a : List Int) : plain (n + 2) (Ti a) = true := by
  show (a.map D.int).all (plain (n + 1)) = true
  rw [List.all_map]
  exact List.all_eq_true.mpr fun _ _ => rfl
def other (Cs : List Str) (C : Str) (x : D) : Prop := dIsC Cs C x = some (.bl false)
end Tq

namespace Tq
open PySem PySem.Spec PyProof.Rows L2 LamX Pd
def N_is_count : List Str := ["value"]
def w_is_count : WS := (sRet (wCall F_is_from (wCons (wVar 0) (wCons (W.ret (.int 0)) (wCons (W.ret (.int 999999999999999999999999999999)) wNil)))))
def N_are_counts : List Str := ["value", "most", "one"]
def w_are_counts : WS := (sSeq (sIf (tOrP (tNotP (wTest (w1 (dIsi "tuple") (wVar 0)))) (tNotP (wTest (wChain dLe dLe (W.ret (.int 1)) (w1 dLen (wVar 0)) (wVar 1))))) (sRet (W.ret (.bl false))) sNil) (sRet (x1 fAll (wLst (wComp (wItems (wVar 0)) (gNm 2) (W.ret true) (wCall F_is_count (wCons (wVar 2) wNil)) [2])))))
def N_room : List Str := ["cap", "many", "columns", "column"]
def w_room : WS := (sRet (x1 fSum (wLst (wComp (wItems (wVar 2)) (gNm 3) (W.ret true) (wN dMin2 (wCons (xBin fMul (wVar 0) (wVar 1)) (wCons (wVar 3) wNil))) [3]))))
def N_is_sums : List Str := ["value", "cap", "lines", "columns", "degrees", "scores"]
def w_is_sums : WS := (sSeq (sIf (tOrP (tNotP (wTest (w1 (dIsi "tuple") (wVar 0)))) (tOrP (wTest (wBin dLt (w1 dLen (wVar 0)) (W.ret (.int 2)))) (tNotP (wTest (w1 (dIsi "str") (xBin fIdx (wVar 0) (W.ret (.int 0)))))))) (sRet (W.ret (.bl false))) sNil) (sSeq (sMatch (wVar 0) (mcSeq [.s "table", .v 1, .v 2, .v 3] (sRet (wAnd (wCall F_is_cap (wCons (wVar 1) wNil)) (wAnd (wCall F_are_counts (wCons (wVar 2) (wCons (W.ret (.int 12)) wNil))) (wCall F_are_counts (wCons (wVar 3) (wCons (W.ret (.int 12)) wNil)))))) (mcSeq [.s "web", .v 4] (sRet (wCall F_are_counts (wCons (wVar 4) (wCons (W.ret (.int 16)) wNil)))) (mcSeq [.s "tournament", .v 5] (sRet (wCall F_are_counts (wCons (wVar 5) (wCons (W.ret (.int 16)) wNil)))) mcNil)))) (sRet (W.ret (.bl false)))))
def N_require_table_sums : List Str := ["sums"]
def w_require_table_sums : WS := (sIf (tOrP (tNotP (wTest (wCall F_is_sums (wCons (wVar 0) wNil)))) (wTest (xBin fNe (xBin fIdx (wVar 0) (W.ret (.int 0))) (W.ret (.str "table"))))) (sRaise "InvalidSums") sNil)
end Tq

namespace Tq
open PySem PySem.Spec PyProof.Rows L2 LamX Pd
open Ta (Tb lnD tbD wd lsum csum badN le_chain all_true upTo_mem)
theorem upTo0 (j : Int) : Pd.upTo 0 j = (List.range j.toNat).map fun (i : Nat) => D.int (i : Int) := by
  unfold Pd.upTo
  rw [Int.sub_zero]
  refine List.map_congr_left fun i _ => ?_
  rw [Int.zero_add]
theorem zip_ints (a b : List Int) : zipD (a.map D.int) (b.map D.int) = (a.zip b).map fun q : Int × Int => .tup [.int q.1, .int q.2] := by
  unfold zipD
  rw [List.zip_map, List.map_map]
  rfl
theorem comp_zip {a b : List Int} {v u : Nat} {e : W D} {Q : List D → PEnv → Prop} (E : Option Sl → Option Sl → PEnv) (h : Int → Int → D) (s0 s1 : Option Sl) (hE : ∀ s z x y, ((wipeE (E s z) [v, u]).set v (some (.d x))).set u (some (.d y)) = E (some (.d x)) (some (.d y)))
    (he : ∀ x y K ex, K (h x y) (E (some (.d (.int x))) (some (.d (.int y)))) → e (E (some (.d (.int x))) (some (.d (.int y)))) K ex) (q : ∀ s z, Q ((a.zip b).map fun q => h q.1 q.2) (E s z)) :
    compW (gTupP (gsCons (gNm v) (gsCons (gNm u) gsNil)) 2) (W.ret true) e [v, u] Q (zipD (a.map D.int) (b.map D.int)) (E s0 s1) [] := by
  rw [zip_ints]
  exact comp_pair E (fun q : Int × Int => D.int q.1) (fun q : Int × Int => D.int q.2) (fun q => h q.1 q.2) (fun _ => true) (a.zip b) s0 s1 [] hE (fun _ _ _ _ k => k) (fun q _ _ K ex k => he q.1 q.2 K ex k) (fun s z => by
    rw [List.nil_append, List.filter_eq_self.mpr fun _ _ => rfl]
    exact q s z)
theorem pure_is_count (ds : List D) (Q : D → Prop) (Ex : Xc → Prop) (h : F_is_count ds Q Ex) : w_is_count (dEnds Q Ex) (startE N_is_count ds) := by
  obtain ⟨x, rfl, h0, h1, q⟩ := h
  refine ⟨.int x, 0, 999999999999999999999999999999, rfl, rfl, ?_⟩
  rw [show Pd.inR (.int x) 0 999999999999999999999999999999 = true from le_chain h0 h1]
  exact q
theorem len_is_count (ds : List D) (Q : D → Prop) (Ex : Xc → Prop) (h : F_is_count ds Q Ex) : ds.length = 1 := by
  obtain ⟨x, rfl, _⟩ := h
  rfl
theorem pure_are_counts (ds : List D) (Q : D → Prop) (Ex : Xc → Prop) (h : F_are_counts ds Q Ex) : w_are_counts (dEnds Q Ex) (startE N_are_counts ds) := by
  obtain ⟨r, m, rfl, ⟨l1, lm, ce⟩, q⟩ := h
  have el : ((r.map D.int).length : Int) = (r.length : Int) := by rw [List.length_map]
  refine br_ff rfl (br_if (fun _ => br_no (br_if (fun _ => ?_) fun h => absurd (show ((r.map D.int).length : Int) ≤ (m : Int) by omega) h)) (fun h => absurd (show (1 : Int) ≤ ((r.map D.int).length : Int) by omega) h))
  refine comp_all (fun s => [some (.d (Ti r)), some (.d (.int (m : Int))), s]) D.int (fun _ => .bl true) r none [] (fun _ _ => rfl) (fun x hx K ex k => ⟨x, rfl, (ce x hx).1, (ce x hx).2, k⟩) fun s => ?_
  refine ⟨r.map fun _ => true, by rw [List.nil_append, List.map_map]; rfl, ?_⟩
  rw [all_true fun _ _ => rfl]
  exact q
theorem len_are_counts (ds : List D) (Q : D → Prop) (Ex : Xc → Prop) (h : F_are_counts ds Q Ex) : ds.length = 2 := by
  obtain ⟨x, m, rfl, _⟩ := h
  rfl
theorem pure_room (ds : List D) (Q : D → Prop) (Ex : Xc → Prop) (h : F_room ds Q Ex) : w_room (dEnds Q Ex) (startE N_room ds) := by
  obtain ⟨c, m, r, rfl, c0, c9, q⟩ := h
  refine comp_all (fun s => [some (.d (.int c)), some (.d (.int (m : Int))), some (.d (Ti r)), s]) D.int (fun x => D.int (if x < c * m then x else c * m)) r none [] (fun _ _ => rfl) (fun x hx K ex k => ⟨.inl (.inl (by omega)), k⟩) fun s => ?_
  refine ⟨r.map fun x => if x < c * m then x else c * m, ?_, ?_⟩
  · rw [List.nil_append, List.map_map]
    rfl
  · have e : (r.map fun x => if x < c * m then x else c * m) = r.map fun x => min (c * (m : Int)) x := List.map_congr_left fun x _ => by split <;> omega
    rw [e]
    exact q
theorem len_room (ds : List D) (Q : D → Prop) (Ex : Xc → Prop) (h : F_room ds Q Ex) : ds.length = 3 := by
  obtain ⟨c, m, r, rfl, _⟩ := h
  rfl
end Tq

namespace Tq
open PySem PySem.Spec PyProof.Rows L2 LamX Pd
open Ta (Tb lnD tbD wd lsum csum badN le_chain all_true upTo_mem)
end Tq

namespace Tq
open PySem PySem.Spec PyProof.Rows L2 LamX Pd
open Ta (Tb lnD tbD wd lsum csum badN le_chain all_true upTo_mem)
end Tq

namespace Tq
open PySem PySem.Spec PyProof.Rows L2 LamX Pd
open Ta (Tb lnD tbD wd lsum csum badN colI wd_of tb_flip)
structure Cs (c : Int) (n : Nat) (gs : List (List Int)) : Prop where
  ln : ∀ g ∈ gs, g.length = n
  ce : ∀ g ∈ gs, ∀ x ∈ g, 0 ≤ x ∧ x ≤ c
end Tq

namespace Tq
open PySem PySem.Spec PyProof.Rows L2 LamX Pd
open Ta (Tb lnD tbD wd lsum csum badN le_chain all_true upTo_mem wd_of)
end Tq

namespace Tq
open PySem PySem.Spec PyProof.Rows L2 LamX Pd
open Ta (Tb lnD tbD wd lsum csum badN le_chain all_true upTo_mem wd_of)
theorem pure_is_sums (ds : List D) (Q : D → Prop) (Ex : Xc → Prop) (h : F_is_sums ds Q Ex) : w_is_sums (dEnds Q Ex) (startE N_is_sums ds) := by
  obtain ⟨c, l, r, rfl, c1, c9, kl, kr, q⟩ := h
  refine br_ff rfl (br_ff rfl ⟨_, rfl, br_ff rfl ?_⟩)
  refine br_tt rfl ⟨⟨by decide +kernel, by decide +kernel⟩, br_tt (by decide +kernel) ?_⟩
  exact ⟨c, rfl, c1, c9, br_tt rfl ⟨l, 12, rfl, kl, br_tt rfl ⟨r, 12, rfl, kr, q⟩⟩⟩
theorem len_is_sums (ds : List D) (Q : D → Prop) (Ex : Xc → Prop) (h : F_is_sums ds Q Ex) : ds.length = 1 := by
  obtain ⟨c, l, r, rfl, _⟩ := h
  rfl
theorem pure_require_table_sums (ds : List D) (Q : D → Prop) (Ex : Xc → Prop) (h : F_require_table_sums ds Q Ex) : w_require_table_sums (dEnds Q Ex) (startE N_require_table_sums ds) := by
  obtain ⟨c, l, r, rfl, c1, c9, kl, kr, q⟩ := h
  exact ⟨c, l, r, rfl, c1, c9, kl, kr, br_ff rfl ⟨_, rfl, by decide +kernel, br_ff (by decide +kernel) q⟩⟩
theorem len_require_table_sums (ds : List D) (Q : D → Prop) (Ex : Xc → Prop) (h : F_require_table_sums ds Q Ex) : ds.length = 1 := by
  obtain ⟨c, l, r, rfl, _⟩ := h
  rfl
theorem bar_zero {c : Int} {l r : List Int} : bar c l r = 0 ↔ ∀ k, k < l.length → ((dn l).take (k + 1)).sum ≤ Qg.rm c r (k + 1) := by
  unfold bar
  constructor
  · intro h k hk
    split at h
    · omega
    · rename_i e
      have := List.find?_eq_none.mp e k (List.mem_range.mpr hk)
      simpa using this
  · intro h
    have e : ((List.range l.length).find? fun k => decide (Qg.rm c r (k + 1) < ((dn l).take (k + 1)).sum)) = none := List.find?_eq_none.mpr fun k hk => by
      have := h k (List.mem_range.mp hk)
      simpa using this
    rw [e]
theorem has_feas {c : Int} {l r : List Int} (c0 : 0 ≤ c) (hr : ∀ x ∈ r, 0 ≤ x) : has c l r = true ↔ Qg.Feas c l.length (Qg.fn l) r := by
  rw [Qg.has_iff c0 hr (dn_perm l) (dn_sorted l)]
  unfold has
  rw [Bool.and_eq_true, decide_eq_true_eq, decide_eq_true_eq, bar_zero]
  refine and_congr Iff.rfl ⟨fun h k hk => ?_, fun h k hk => h (k + 1) (by omega)⟩
  cases k with
  | zero =>
    have e : Qg.rm c r 0 = 0 := by rw [← Qg.sm_fillrow c0 r hr]; rfl
    rw [e]
    simp
  | succ k => exact h k (by omega)
end Tq

namespace Tq
open PySem PySem.Spec PyProof.Rows L2 LamX Pd
open Ta (Tb lnD tbD wd lsum csum badN colI wd_of tb_flip)
end Tq

namespace Ph
open PySem PySem.Spec PyProof.Rows L2 LamX Pd
def badN (x : D) : Xc := ⟨"InvalidNumber", [("value", x)]⟩
def heads : List Int → Int → List Int
  | [], _ => []
  | x :: xs, t => (t + x) :: heads xs (t + x)
abbrev F_is_integer := Pd.F_is_integer
abbrev F_is_from := Pd.F_is_from
abbrev F_L_ladle := Pd.F_draw
abbrev F_L_pick := Pd.F_pick
end Ph

namespace Ph
open PySem PySem.Spec PyProof.Rows L2 LamX Pd
def N_is_integer : List Str := ["value"]
def w_is_integer : WS := (sRet (wAnd (w1 (dIsi "int") (wVar 0)) (wNot (w1 (dIsi "bool") (wVar 0)))))
def N_is_from : List Str := ["value", "first", "last"]
def w_is_from : WS := (sRet (wAnd (wCall F_is_integer (wCons (wVar 0) wNil)) (wChain dLe dLe (wVar 1) (wVar 0) (wVar 2))))
def N_L_pick : List Str := ["_law_bowl_here", "_law_items"]
def w_L_pick : WS := (sRet (xBin fIdx (wVar 1) (wCall F_L_ladle (wCons (wVar 0) (wCons (w1 dLen (wVar 1)) wNil)))))
end Ph

namespace Ph
open PySem PySem.Spec PyProof.Rows L2 LamX Pd
theorem log_lt {n : Int} (h0 : 0 < n) (h : n < 2 ^ 200) : n.natAbs.log2 < 9000 := by
  have h1 : n.natAbs < 2 ^ 200 := by
    have : (n.natAbs : Int) = n := Int.natAbs_of_nonneg (by omega)
    omega
  exact Nat.lt_of_lt_of_le (PySem.Flt.log2_lt_of (by decide) h1) (by decide)
theorem bok0 {g : Int} (h : bokB 0 g) : 0 ≤ g ∧ g < 2 ^ 4000 := ⟨h.1, by
  rcases h.2 with b | b | b
  · exact b.2
  · exact absurd b.1 (by decide)
  · exact absurd b (by decide)⟩
theorem atI_nat {α : Type} {xs : List α} {r : Int} {x : α} (h0 : 0 ≤ r) (h : xs[r.toNat]? = some x) : atI xs r = some x := by
  have hl := (List.getElem?_eq_some_iff.mp h).1
  unfold atI ixN
  rw [if_pos h0, if_pos (by omega)]
  exact h
theorem idx_items {x : D} {xs : List D} {r : Int} {y : D} (hx : dItems x = some xs) (h0 : 0 ≤ r) (h : xs[r.toNat]? = some y) : dIdx x (.int r) = some y := by
  cases x with
  | lst ys =>
    cases hx
    exact atI_nat h0 h
  | tup ys =>
    cases hx
    exact atI_nat h0 h
  | _ => cases hx
theorem items_or {x : D} {xs : List D} (hx : dItems x = some xs) : x = .lst xs ∨ x = .tup xs := by
  cases x with
  | lst ys =>
    cases hx
    exact .inl rfl
  | tup ys =>
    cases hx
    exact .inr rfl
  | _ => cases hx
theorem pure_L_pick (ds : List D) (Q : D → Prop) (Ex : Xc → Prop) (h : F_L_pick ds Q Ex) : w_L_pick (dEnds Q Ex) (startE N_L_pick ds) := by
  obtain ⟨p, x, xs, rfl, hx, ne, hl, q⟩ := h
  have l0 : 0 < xs.length := List.length_pos_iff.mpr ne
  have key : ∀ r : Int, 0 ≤ r → r < xs.length → ∃ z, dIdx x (.int r) = some z ∧ Q z := fun r h0 h1 => by
    have hr : r.toNat < xs.length := by omega
    exact ⟨_, idx_items hx h0 (List.getElem?_eq_getElem hr), q _ (List.getElem_mem hr)⟩
  rcases items_or hx with rfl | rfl
  · exact ⟨p, _, rfl, by omega, by omega, key⟩
  · exact ⟨p, _, rfl, by omega, by omega, key⟩
theorem len_L_pick (ds : List D) (Q : D → Prop) (Ex : Xc → Prop) (h : F_L_pick ds Q Ex) : ds.length = 2 := by
  obtain ⟨p, x, xs, rfl, _⟩ := h
  rfl
theorem upTo_length (a b : Int) : (Pd.upTo a b).length = (b - a).toNat := by
  unfold Pd.upTo
  rw [List.length_map, List.length_range]
theorem scr_at {ns : List Int} {i : Int} (h0 : 0 ≤ i) (h : i < ns.length) : ∃ n, dIdx (.scr ns) (.int i) = some (.int n) := by
  have hr : i.toNat < ns.length := by omega
  refine ⟨ns[i.toNat], ?_⟩
  show (atI ns i).map D.int = _
  rw [atI_nat h0 (List.getElem?_eq_getElem hr)]
  rfl
theorem box_ok {g m : Int} (h0 : 0 < m) (h : m ≤ 2 ^ 4000) (c : Int) (hc : 0 ≤ c) : 0 ≤ (if g % m - c > 0 then g % m - c else 0) ∧ (if g % m - c > 0 then g % m - c else 0) < 2 ^ 4000 := by
  have a := Int.emod_nonneg g (show m ≠ 0 by omega)
  have b := Int.emod_lt_of_pos g h0
  have p : (0 : Int) < 2 ^ 4000 := by decide
  split
  · omega
  · exact ⟨Int.le_refl _, p⟩
theorem pure_is_integer (ds : List D) (Q : D → Prop) (Ex : Xc → Prop) (h : F_is_integer ds Q Ex) : w_is_integer (dEnds Q Ex) (startE N_is_integer ds) := Pd.pure_is_integer ds Q Ex h
theorem len_is_integer (ds : List D) (Q : D → Prop) (Ex : Xc → Prop) (h : F_is_integer ds Q Ex) : ds.length = 1 := by
  obtain ⟨x, rfl, _⟩ := h
  rfl
theorem pure_is_from (ds : List D) (Q : D → Prop) (Ex : Xc → Prop) (h : F_is_from ds Q Ex) : w_is_from (dEnds Q Ex) (startE N_is_from ds) := Pd.pure_is_from ds Q Ex h
theorem len_is_from (ds : List D) (Q : D → Prop) (Ex : Xc → Prop) (h : F_is_from ds Q Ex) : ds.length = 3 := by
  obtain ⟨x, a, b, rfl, _⟩ := h
  rfl
end Ph

namespace Ph
open PySem PySem.Spec PyProof.Rows L2 LamX Pd
end Ph

namespace Ph
open PySem PySem.Spec PyProof.Rows L2 LamX Pd
theorem upTo0 (j : Int) : Pd.upTo 0 j = (List.range j.toNat).map fun (i : Nat) => D.int (i : Int) := by
  unfold Pd.upTo
  rw [Int.sub_zero]
  refine List.map_congr_left fun k _ => ?_
  rw [Int.zero_add]
end Ph

namespace Ph
open PySem PySem.Spec PyProof.Rows L2 LamX Pd
mutual
theorem eqb_self : ∀ (n : Nat) (x : D), plain n x = true → eqb x x = true
  | 0, x, h => by cases h
  | n + 1, .non, _ => rfl
  | n + 1, .bl b, _ => by simp [eqb]
  | n + 1, .int b, _ => by simp [eqb]
  | n + 1, .str b, _ => by simp [eqb]
  | n + 1, .tup xs, h => eqbs_self n xs h
  | n + 1, .lst xs, h => eqbs_self n xs h
  | n + 1, .scr _, h => by cases h
  | n + 1, .dic _, h => by cases h
  | n + 1, .dit _, h => by cases h
  | n + 1, .ins _ _, h => by cases h
  | n + 1, .box _, h => by cases h
  | n + 1, .raw _, h => by cases h
theorem eqbs_self : ∀ (n : Nat) (xs : List D), xs.all (plain n) = true → eqbs xs xs = true
  | n, [], _ => rfl
  | n, x :: xs, h => by
    rw [List.all_cons, Bool.and_eq_true] at h
    show (eqb x x && eqbs xs xs) = true
    rw [eqb_self n x h.1, eqbs_self n xs h.2]
    rfl
end
theorem eq_self {x : D} {env : PEnv} {Q : D → PEnv → Prop} (h : plain 60 x = true) (q : Q (.bl true) env) : fEq x x env Q := by
  refine ⟨by rw [h]; rfl, ?_⟩
  rw [eqb_self 60 x h]
  exact q
theorem ne_self {x : D} {env : PEnv} {Q : D → PEnv → Prop} (h : plain 60 x = true) (q : Q (.bl false) env) : fNe x x env Q := by
  refine ⟨by rw [h]; rfl, ?_⟩
  rw [eqb_self 60 x h]
  exact q
theorem pl_ints (n : Nat) (ns : List Int) : (ns.map D.int).all (plain (n + 1)) = true := by
  rw [List.all_map]
  exact List.all_eq_true.mpr fun x _ => rfl
theorem pl_Ti (n : Nat) (ns : List Int) : plain (n + 2) (Ti ns) = true := pl_ints n ns
end Ph

namespace Ph
open PySem PySem.Spec PyProof.Rows L2 LamX Pd
abbrev hd (a : List Int) : List Int := heads (dn a) 0
end Ph

namespace Ph
open PySem PySem.Spec PyProof.Rows L2 LamX Pd
end Ph

namespace Ph
open PySem PySem.Spec PyProof.Rows L2 LamX Pd
end Ph

namespace Ph
open PySem PySem.Spec PyProof.Rows L2 LamX Pd
theorem zip_ints (a b : List Int) : zipD (a.map D.int) (b.map D.int) = (a.zip b).map fun q => D.tup [.int q.1, .int q.2] := by
  unfold zipD
  rw [List.zip_map, List.map_map]
  rfl
theorem comp_zip {a b : List Int} {v u : Nat} {e : W D} {Q : List D → PEnv → Prop} (E : Option Sl → Option Sl → PEnv) (h : Int → Int → D) (s0 s1 : Option Sl) (hE : ∀ s z x y, ((wipeE (E s z) [v, u]).set v (some (.d x))).set u (some (.d y)) = E (some (.d x)) (some (.d y)))
    (he : ∀ x y : Int, ∀ (K : D → PEnv → Prop) ex, K (h x y) (E (some (.d (.int x))) (some (.d (.int y)))) → e (E (some (.d (.int x))) (some (.d (.int y)))) K ex)
    (hQ : ∀ s z, Q ((a.zip b).map fun q => h q.1 q.2) (E s z)) : compW (gTupP (gsCons (gNm v) (gsCons (gNm u) gsNil)) 2) (W.ret true) e [v, u] Q (zipD (a.map D.int) (b.map D.int)) (E s0 s1) [] := by
  rw [zip_ints]
  refine comp_pair (t := W.ret true) E (fun q => .int q.1) (fun q => .int q.2) (fun q => h q.1 q.2) (fun _ => true) (a.zip b) s0 s1 [] hE (fun q _ K ex k => k) (fun q _ _ => he q.1 q.2) fun s z => ?_
  rw [List.filter_eq_self.mpr fun _ _ => rfl]
  exact hQ s z
theorem enD_ints : ∀ (bs : List Int) (p : Nat), enD p (bs.map D.int) = (bs.zipIdx p).map fun q => D.tup [.int (q.2 : Nat), .int q.1]
  | [], _ => rfl
  | b :: bs, p => by
    show D.tup [.int (p : Nat), .int b] :: enD (p + 1) (bs.map D.int) = _
    rw [enD_ints bs (p + 1)]
    rfl
end Ph

namespace Ph
open PySem PySem.Spec PyProof.Rows L2 LamX Pd
end Ph

namespace Ph
open PySem PySem.Spec PyProof.Rows L2 LamX Pd
end Ph

namespace Ph
open PySem PySem.Spec PyProof.Rows L2 LamX Pd
end Ph

namespace Ph
open PySem PySem.Spec PyProof.Rows L2 LamX Pd
end Ph

namespace Ph
open PySem PySem.Spec PyProof.Rows L2 LamX Pd
end Ph

namespace Ph
open PySem PySem.Spec PyProof.Rows L2 LamX Pd
end Ph

namespace Tr
open PySem PySem.Spec PyProof.Rows L2 LamX Pd
open Ta (Tb lnD tbD wd lsum csum badN)
open Tq (Cn grow bar has smD bar_zero has_feas)
def less (m : Int) (l : List Int) : List Int := l.map fun x => m - x
structure Pk (n k : Nat) (is : List Int) : Prop where
  ln : is.length = k
  up : is.Pairwise (· < ·)
  rg : ∀ i ∈ is, 0 ≤ i ∧ i < (n : Int)
def sat (l is : List Int) : Int := (is.map fun i => l.getD i.toNat 0).sum
def le2 (b : List Int) (i j : Nat) : Bool := decide (-(b.getD i 0) < -(b.getD j 0) ∨ -(b.getD i 0) = -(b.getD j 0) ∧ (i : Int) ≤ (j : Int))
theorem leK_le2 (rows : Nat → List Int) (k : Nat) : leK rows [.neg k, .self] = le2 (rows k) :=
  PySem.W.dataLe_ii (fun i : Nat => -((rows k).getD i 0)) fun i : Nat => (i : Int)
def pl (b : List Int) : List Nat := (List.range b.length).mergeSort (le2 b)
theorem pl_perm (b : List Int) : (pl b).Perm (List.range b.length) := List.mergeSort_perm _ _
theorem pl_nodup (b : List Int) : (pl b).Nodup := (pl_perm b).nodup_iff.mpr List.nodup_range
theorem pl_len (b : List Int) : (pl b).length = b.length := by rw [(pl_perm b).length_eq, List.length_range]
theorem pl_lt {b : List Int} {i : Nat} (h : i ∈ pl b) : i < b.length := List.mem_range.mp ((pl_perm b).mem_iff.mp h)
theorem pl_sorted (b : List Int) : (pl b).Pairwise fun i j => b.getD j 0 ≤ b.getD i 0 := by
  have h := List.pairwise_mergeSort (le := le2 b) (fun i j k h1 h2 => by
    unfold le2 at *
    have h1 := of_decide_eq_true h1
    have h2 := of_decide_eq_true h2
    exact decide_eq_true (by omega)) (fun i j => by
    unfold le2
    by_cases h : -(b.getD i 0) < -(b.getD j 0) ∨ -(b.getD i 0) = -(b.getD j 0) ∧ (i : Int) ≤ (j : Int)
    · rw [decide_eq_true h]; rfl
    · rw [decide_eq_true (p := -(b.getD j 0) < -(b.getD i 0) ∨ -(b.getD j 0) = -(b.getD i 0) ∧ (j : Int) ≤ (i : Int)) (by omega)]; simp) (List.range b.length)
  refine h.imp fun {i j} h => ?_
  have := of_decide_eq_true (show decide _ = true from h)
  omega
theorem pl_dn (b : List Int) : (pl b).map (fun i => b.getD i 0) = dn b := by
  have p : ((pl b).map fun i => b.getD i 0).Perm (dn b) := by
    refine ((pl_perm b).map _).trans ?_
    rw [show (List.range b.length).map (fun i => b.getD i 0) = b from Qg.map_fn_range b]
    exact (dn_perm b).symm
  refine p.eq_of_pairwise (fun x y _ _ h1 h2 => Int.le_antisymm h2 h1) ?_ (dn_sorted b)
  exact List.pairwise_map.mpr (pl_sorted b)
def hvy (b : List Int) (k : Nat) : List Int := up (((pl b).take k).map fun (i : Nat) => (i : Int))
theorem hvy_perm (b : List Int) (k : Nat) : (hvy b k).Perm (((pl b).take k).map fun (i : Nat) => (i : Int)) := up_perm _
theorem hvy_pk {b : List Int} {k : Nat} (h : k ≤ b.length) : Pk b.length k (hvy b k) := by
  refine ⟨?_, ?_, fun i hi => ?_⟩
  · rw [(hvy_perm b k).length_eq, List.length_map, List.length_take, pl_len]
    omega
  · have nd : (hvy b k).Nodup := by
      refine (hvy_perm b k).nodup_iff.mpr ?_
      refine List.Pairwise.map _ (fun a b h z => h (by exact_mod_cast z)) (((pl_nodup b).sublist (List.take_sublist k _)))
    exact ((up_sorted _).and nd).imp fun {a b} h => by have := h.1; have := h.2; omega
  · obtain ⟨j, hj, rfl⟩ := List.mem_map.mp ((hvy_perm b k).mem_iff.mp hi)
    have := pl_lt (List.mem_of_mem_take hj)
    omega
theorem hvy_sat {b : List Int} {k : Nat} : sat b (hvy b k) = ((dn b).take k).sum := by
  unfold sat
  rw [Qg.perm_sum ((hvy_perm b k).map _), List.map_map, ← pl_dn, ← List.map_take]
  rfl
end Tr

namespace Pd
open PySem PySem.Spec PyProof.Rows L2 LamX
def wIxC (j : Nat) (a b : W D) : W D := fun env Q ex => a env (fun x env1 => celIs env1 j x fun _ _ => b env1 (fun y env2 => celIs env2 j x fun _ xs => ∃ z, dIdx (.lst xs) y = some z ∧ Q z env2) ex) ex
def sSetC (j : Nat) (a iw ew : W D) : WS := fun pe env => ew env (fun v env1 => a env1 (fun x env2 => celIs env2 j x fun _ _ => iw env2 (fun n env3 => celIs env3 j x fun p xs => match n with
  | .int n => ∃ i, ixN xs.length n = some i ∧ pe.nx (env3.set j (some (.cels (celSet (celsOf (gt env3 j)) p (xs.set i v)))))
  | _ => False) pe.ex) pe.ex) pe.ex
section
variable {X : Cx} {T : List (Addr × Str)} {E : XK} {k : Nat}
theorem je_ixC (j : Nat) {o y : Expr} {a b : W D} {pos : Pos} (ha : JE T X E o a) (hb : JE T X E y b) (hs : PlainIx y) : JE T X E (.Subscript o y pos) (wIxC j a b) :=
  peI (pe_ix ix_list ha hb hs) fun σ H Q ⟨c, wd, env, P, Ex, rl, h, xo, kk⟩ => by
    refine ⟨c, wd, env, _, Ex, rl, h, xo, fun x env1 h1 v wd1 H1 le1 r1 rp1 => ?_⟩
    obtain ⟨p, xs0, rfl, m0, h1⟩ := celIs_inv h1
    cases rp1
    refine ⟨c, wd1, env1, _, Ex, r1, h1, xo, fun y1 env2 h2 u wd2 H2 le2 r2 rp2 => ?_⟩
    obtain ⟨p', xs, e', m, z, e2, hq⟩ := celIs_inv h2
    clear h2
    cases e'
    obtain ⟨vs, z2, z6⟩ := r2.celAt m
    cases rp2 <;> first | cases e2 | skip
    obtain ⟨w, e3, r3⟩ := atI_reps z6 e2
    exact ⟨_, vs, _, w, rfl, rfl, .inl (.inl z2), e3, kk z env2 hq w wd2 H2 (le1.trans le2) r2 r3⟩
theorem js_setC (j : Nat) {o y e : Expr} {a iw ew : W D} {p2 pos : Pos} (ha : JE T X E o a) (hi : JE T X E y iw) (he : JE T X E e ew) (hs : swapsWithSole [.Subscript o y p2] e pos.line X.env = pure false := by rfl) (hw : swappedStores [.Subscript o y p2] e X.env = pure none := by rfl)
    (h1 : (assignEach [.Subscript o y p2] X.env).map (·.2) = [assign (.Subscript o y p2) X.env] := by rfl)
    (hasg : ∀ v, assign (.Subscript o y p2) X.env v = (do
      let ov ← holding [v] (eval o X.env)
      let iv ← holding [v, ov] (eval y X.env)
      standAt p2
      holding [v, ov, iv] (setItem ov iv v)
      release [v, ov, iv] []) := by intro _; rfl) : JS T X E (.Assign [.Subscript o y p2] e pos) (sSetC j a iw ew) :=
  psI (ps_asg he (pg_sub ha hi set_list hasg) hs hw h1) fun D σ H ⟨c, wd, env, pe, rl, h, o⟩ => by
    refine ⟨c, wd, env, _, _, rl, h, o.ex, fun v env1 h1 u wd1 H1 le1 r1 rp1 => ⟨c, wd1, env1, _, _, r1, h1, o.ex, fun x env2 h2 ux wd2 H2 le2 r2 rp2 => ?_⟩⟩
    obtain ⟨p, xs0, rfl, m0, h2⟩ := celIs_inv h2
    cases rp2
    refine ⟨c, wd2, env2, _, _, r2, h2, o.ex, fun n env3 h3 w wd3 H3 le3 r3 rp3 => ?_⟩
    obtain ⟨p', xs, e', m, h4⟩ := celIs_inv h3
    clear h3
    cases e'
    obtain ⟨vs, z2, z6⟩ := r3.celAt m
    split at h4
    · rename_i n
      cases rp3
      obtain ⟨i, ej, h3⟩ := h4
      have hz : (vs.set i u).length ≤ sizeLine := by
        rw [List.length_set]
        exact r3.good.siz _ _ z2
      exact ⟨_, vs, n, i, rfl, rfl, z2, by rw [z6.length]; exact ej, o.nx _ h3 _ wd3 _ ((le1.trans le2).trans le3) (r3.mutCel m (z6.set i (Rep.mono (le2.trans le3) rp1)) hz)⟩
    · exact h4.elim
end
end Pd

namespace Pd
open PySem PySem.Spec PyProof.Rows L2 LamX
section
variable {P : Program} {w : World} {K : PySem.W.Frag} {mg : Str → Option Value} {base : Heap} {T : List (Addr × Str)}
end
end Pd

namespace Tr
open PySem PySem.Spec PyProof.Rows L2 LamX Pd
open Ta (Tb lnD tbD wd lsum csum badN)
open Tq (Cn grow bar has smD)
abbrev F_is_integer := Ta.F_is_integer
abbrev F_is_from := Ta.F_is_from
abbrev F_L_ball := Ta.F_L_ball
abbrev F_L_pick := Ta.F_L_pick
abbrev F_room := Tq.F_room
abbrev F_is_sums := Tq.F_is_sums
abbrev F_require_table_sums := Tq.F_require_table_sums
def F_heaviest : Fn := fun ds Q _ => ∃ (r : List Int) (k : Nat), ds = [Ti r, .int (k : Int)] ∧ k ≤ r.length ∧ r.length ≤ 64 ∧ Q (Ti (hvy r k))
def F_L_line_sums : Fn := fun ds Q _ => ∃ c rs, ds = [lnD rs] ∧ Tb c rs ∧ Q (Ti (lsum rs))
def F_L_column_sums : Fn := fun ds Q _ => ∃ c rs, ds = [lnD rs] ∧ Tb c rs ∧ Q (Ti (csum rs))
def F_L_room : Fn := fun ds Q _ => ∃ (c : Int) (m : Nat) (r : List Int), ds = [.int c, .int (m : Int), Ti r] ∧ 0 ≤ c ∧ c ≤ 9 ∧ Q (.int (Qg.rm c r m))
def Sml (b : Int) (r : List Int) : Prop := ∀ x ∈ r, 0 ≤ x ∧ x ≤ b
def F_L_near : Fn := fun ds Q _ => ∃ (p : Addr) (ls cs : List Int), ds = [.box p, Ti ls, Ti cs] ∧ ls.length ≠ 0 ∧ ls.length ≤ 12 ∧ cs.length ≠ 0 ∧ cs.length ≤ 12 ∧ Sml 5000 ls ∧ Sml 5000 cs ∧ ∀ ls' cs', ls'.length = ls.length → cs'.length = cs.length → Sml 10000 ls' → Sml 10000 cs' → Q (.tup [Ti ls', Ti cs'])
end Tr

namespace Tr
open PySem PySem.Spec PyProof.Rows L2 LamX Pd
def N_heaviest : List Str := ["row", "size", "order"]
def w_heaviest : WS := (sSeq (sSet 2 (wLst (wSortKey [.neg 0, .self] (w1 dLen (wVar 0))))) (sRet (w1 dTuple (wLst (wSort false (wSl (wVar 2) (W.ret none) (wPart (wVar 1))))))))
def N_L_near : List Str := ["_law_urn_here", "_law_lines", "_law_columns", "_law_rows", "_law_turn", "_law_row", "_law_many", "_law_at", "_law_to", "*"]
def w_L_near : WS := (sSeq (sSet 3 (wLst (wSz (wCons (wCell 9 (w1F dItems (wVar 1))) (wCons (wCell 9 (w1F dItems (wVar 2))) wNil))))) (sSeq (sFor (wRng1 (wCall F_L_ball (wCons (wVar 0) (wCons (W.ret (.int 4)) wNil)))) (gNm 4) (sSeq (sSet 5 (wCall F_L_pick (wCons (wVar 0) (wCons (wVar 3) wNil)))) (sSeq (sParM2 7 8 (mE (wCall F_L_ball (wCons (wVar 0) (wCons (w1 dLen (wCelB 9 (wVar 5))) wNil))) (mE (wCall F_L_ball (wCons (wVar 0) (wCons (w1 dLen (wCelB 9 (wVar 5))) wNil))) mNil))) (sSeq (sSet 6 (wN dMin2 (wCons (wIxC 9 (wVar 5) (wVar 7)) (wCons (xBin fAdd (W.ret (.int 1)) (wCall F_L_ball (wCons (wVar 0) (wCons (W.ret (.int 2)) wNil)))) wNil)))) (sSeq (sSetC 9 (wVar 5) (wVar 7) (wBin dSub (wIxC 9 (wVar 5) (wVar 7)) (wVar 6))) (sIf (wTest (wBin dGt (wCall F_L_ball (wCons (wVar 0) (wCons (W.ret (.int 5)) wNil))) (W.ret (.int 0)))) (sSetC 9 (wVar 5) (wVar 8) (xBin fAdd (wIxC 9 (wVar 5) (wVar 8)) (wVar 6))) sNil)))))) (sRet (wTup (wCons (w1 dTuple (wCelB 9 (xBin fIdx (wVar 3) (W.ret (.int 0))))) (wCons (w1 dTuple (wCelB 9 (xBin fIdx (wVar 3) (W.ret (.int 1))))) wNil))))))
def N_L_line_sums : List Str := ["_law_lines", "_law_line"]
def w_L_line_sums : WS := (sRet (w1 dTuple (wLst (wComp (wItems (wVar 0)) (gNm 1) (W.ret true) (x1 fSum (wVar 1)) [1]))))
def N_L_column_sums : List Str := ["_law_lines", "_law_column", "_law_line"]
def w_L_column_sums : WS := (sRet (w1 dTuple (wLst (wComp (wRng1 (w1 dLen (xBin fIdx (wVar 0) (W.ret (.int 0))))) (gNm 1) (W.ret true) (x1 fSum (wLst (wComp (wItems (wVar 0)) (gNm 2) (W.ret true) (xBin fIdx (wVar 2) (wVar 1)) [2]))) [1]))))
def N_L_room : List Str := ["_law_cap", "_law_many", "_law_sums", "_law_one"]
def w_L_room : WS := (sRet (x1 fSum (wLst (wComp (wItems (wVar 2)) (gNm 3) (W.ret true) (wN dMin2 (wCons (xBin fMul (wVar 0) (wVar 1)) (wCons (wVar 3) wNil))) [3]))))
end Tr

namespace Tr
open PySem PySem.Spec PyProof.Rows L2 LamX Pd
open Ta (Tb lnD tbD wd lsum csum badN le_chain all_true idx_items colI wd_of)
open Tq (Cn grow bar has smD eqb_self ne_self eq_self eqb_Ti pl_Ti upTo0)
theorem pure_L_line_sums (ds : List D) (Q : D → Prop) (Ex : Xc → Prop) (h : F_L_line_sums ds Q Ex) : w_L_line_sums (dEnds Q Ex) (startE N_L_line_sums ds) := by
  obtain ⟨c, rs, rfl, t, q⟩ := h
  refine comp_all (fun s => [some (.d (lnD rs)), s]) Ti (fun r => .int r.sum) rs none [] (fun _ _ => rfl) (fun r hr K ex k => ⟨r, rfl, k⟩) fun s => ?_
  have e : ([] : List D) ++ rs.map (fun r => D.int r.sum) = (lsum rs).map D.int := by
    unfold Ta.lsum
    rw [List.nil_append, List.map_map]
    rfl
  rw [e]
  exact q
theorem len_L_line_sums (ds : List D) (Q : D → Prop) (Ex : Xc → Prop) (h : F_L_line_sums ds Q Ex) : ds.length = 1 := by
  obtain ⟨c, rs, rfl, _⟩ := h
  rfl
theorem pure_L_column_sums (ds : List D) (Q : D → Prop) (Ex : Xc → Prop) (h : F_L_column_sums ds Q Ex) : w_L_column_sums (dEnds Q Ex) (startE N_L_column_sums ds) := by
  obtain ⟨c, rs, rfl, t, q⟩ := h
  obtain ⟨w1, w12, hw⟩ := wd_of t
  obtain ⟨e0, w0⟩ := Ta.len_row0 t
  refine ⟨_, e0, ?_⟩
  have h1 : (((rs.getD 0 []).map D.int).length : Int) ≤ 1000000 := by rw [w0]; omega
  refine ⟨h1, by omega, ?_⟩
  show compW _ _ _ _ _ (Pd.upTo 0 (((rs.getD 0 []).map D.int).length : Nat)) _ _
  rw [w0, upTo0, Int.toNat_natCast]
  refine comp_all (fun s => [some (.d (lnD rs)), s, none]) (fun j : Nat => D.int (j : Int)) (fun j => .int (colI rs j).sum) (List.range (wd rs)) none [] (fun _ _ => rfl) (fun j hj K ex k => ?_) fun s => ?_
  · have hj := List.mem_range.mp hj
    refine comp_all (fun s => [some (.d (lnD rs)), some (.d (.int (j : Int))), s]) Ti (fun r => .int (r.getD j 0)) rs none [] (fun _ _ => rfl) (fun r hr K ex k => ⟨_, Ta.idx_int (by rw [hw r hr]; exact hj), k⟩) fun s => ?_
    refine ⟨colI rs j, ?_, k⟩
    show some ([] ++ rs.map fun r => D.int (r.getD j 0)) = _
    unfold Ta.colI
    rw [List.nil_append, List.map_map]
    rfl
  · have e : ([] : List D) ++ (List.range (wd rs)).map (fun j => D.int (colI rs j).sum) = (csum rs).map D.int := by
      unfold Ta.csum Ta.flip
      rw [List.nil_append, List.map_map, List.map_map]
      rfl
    rw [e]
    exact q
theorem len_L_column_sums (ds : List D) (Q : D → Prop) (Ex : Xc → Prop) (h : F_L_column_sums ds Q Ex) : ds.length = 1 := by
  obtain ⟨c, rs, rfl, _⟩ := h
  rfl
theorem pure_L_room (ds : List D) (Q : D → Prop) (Ex : Xc → Prop) (h : F_L_room ds Q Ex) : w_L_room (dEnds Q Ex) (startE N_L_room ds) := by
  obtain ⟨c, m, r, rfl, c0, c9, q⟩ := h
  refine comp_all (fun s => [some (.d (.int c)), some (.d (.int (m : Int))), some (.d (Ti r)), s]) D.int (fun x => D.int (if x < c * m then x else c * m)) r none [] (fun _ _ => rfl) (fun x hx K ex k => ⟨.inl (.inl (by omega)), k⟩) fun s => ?_
  refine ⟨r.map fun x => if x < c * m then x else c * m, ?_, ?_⟩
  · rw [List.nil_append, List.map_map]
    rfl
  · have e : (r.map fun x => if x < c * m then x else c * m) = r.map fun x => min (c * (m : Int)) x := List.map_congr_left fun x _ => by split <;> omega
    rw [e]
    exact q
theorem len_L_room (ds : List D) (Q : D → Prop) (Ex : Xc → Prop) (h : F_L_room ds Q Ex) : ds.length = 3 := by
  obtain ⟨c, m, r, rfl, _⟩ := h
  rfl
end Tr

namespace Tr
open PySem PySem.Spec PyProof.Rows L2 LamX Pd
open Ta (Tb lnD tbD wd lsum csum badN le_chain all_true idx_items colI wd_of)
open Tq (Cn grow bar has smD eqb_self ne_self eq_self eqb_Ti pl_Ti upTo0 comp_zip bar_zero has_feas)
theorem pure_heaviest (ds : List D) (Q : D → Prop) (Ex : Xc → Prop) (h : F_heaviest ds Q Ex) : w_heaviest (dEnds Q Ex) (startE N_heaviest ds) := by
  obtain ⟨r, k, rfl, hk, l64, q⟩ := h
  refine ⟨r.length, fun _ => r, by show D.int _ = D.int _; rw [List.length_map], by omega, by simp, by decide, ⟨rfl, Nat.le_refl _, Nat.lt_of_le_of_lt l64 (by decide), trivial⟩, ?_⟩
  rw [leK_le2]
  have e : Pd.cutD ((pl r).map fun (i : Nat) => D.int (i : Int)) none (some (k : Int)) = (((pl r).take k).map fun (i : Nat) => (i : Int)).map D.int := by
    rw [cut_to, ← List.map_take, List.map_map]
    rfl
  refine ⟨_, congrArg some e, srt_ints _, ?_⟩
  rw [ms_up]
  exact q
theorem len_heaviest (ds : List D) (Q : D → Prop) (Ex : Xc → Prop) (h : F_heaviest ds Q Ex) : ds.length = 2 := by
  obtain ⟨is, n, rfl, _⟩ := h
  rfl
end Tr

namespace Tr
open PySem PySem.Spec PyProof.Rows L2 LamX Pd
open Ta (idx_items)
def Bn (i : Int) (v : List Int) : Prop := ∀ x ∈ v, 0 ≤ x ∧ x ≤ 5000 + 2 * i
def Nr (p1 p2 : Addr) (n m : Nat) (i : Int) (C : List (Addr × List D)) : Prop := ∃ a b : List Int, C = [(p1, a.map D.int), (p2, b.map D.int)] ∧ a.length = n ∧ b.length = m ∧ Bn i a ∧ Bn i b
theorem set_one {p1 p2 : Addr} (h : p2 ≠ p1) (x y z : List D) : celSet [(p1, x), (p2, y)] p1 z = [(p1, z), (p2, y)] := by
  show [if p1 = p1 then (p1, z) else (p1, x), if p2 = p1 then (p1, z) else (p2, y)] = _
  rw [if_pos rfl, if_neg h]
theorem set_two {p1 p2 : Addr} (h : p2 ≠ p1) (x y z : List D) : celSet [(p1, x), (p2, y)] p2 z = [(p1, x), (p2, z)] := by
  show [if p1 = p2 then (p2, z) else (p1, x), if p2 = p2 then (p2, z) else (p2, y)] = _
  rw [if_pos rfl, if_neg fun e => h e.symm]
theorem bn_up {i : Int} {v : List Int} (h : Bn i v) : Bn (i + 1) v := fun x hx => by
  have := h x hx
  omega
theorem near_get {p1 p2 : Addr} (h : p2 ≠ p1) {n m : Nat} {i : Int} {C : List (Addr × List D)} (I : Nr p1 p2 n m i C) (n0 : n ≠ 0) (n12 : n ≤ 12) (m0 : m ≠ 0) (m12 : m ≤ 12) {y : D} (hy : y ∈ [D.raw (.ref p1), D.raw (.ref p2)]) :
    ∃ (r : Addr) (v : List Int), y = .raw (.ref r) ∧ (r, v.map D.int) ∈ C ∧ v.length ≠ 0 ∧ v.length ≤ 12 ∧ Bn i v ∧
      ∀ w : List Int, w.length = v.length → Bn (i + 1) w → Nr p1 p2 n m (i + 1) (celSet C r (w.map D.int)) ∧ (r, w.map D.int) ∈ celSet C r (w.map D.int) ∧
        ∀ w' : List Int, w'.length = v.length → Bn (i + 1) w' → Nr p1 p2 n m (i + 1) (celSet (celSet C r (w.map D.int)) r (w'.map D.int)) := by
  obtain ⟨a, b, rfl, rfl, rfl, ha, hb⟩ := I
  rcases List.mem_cons.mp hy with rfl | hy
  · refine ⟨p1, a, rfl, by simp, n0, n12, ha, fun w hw bw => ?_⟩
    rw [set_one h]
    refine ⟨⟨w, b, rfl, hw, rfl, bw, bn_up hb⟩, by simp, fun w' hw' bw' => ?_⟩
    rw [set_one h]
    exact ⟨w', b, rfl, hw', rfl, bw', bn_up hb⟩
  · rw [List.mem_singleton.mp hy]
    refine ⟨p2, b, rfl, by simp, m0, m12, hb, fun w hw bw => ?_⟩
    rw [set_two h]
    refine ⟨⟨a, w, rfl, rfl, hw, bn_up ha, bw⟩, by simp, fun w' hw' bw' => ?_⟩
    rw [set_two h]
    exact ⟨a, w', rfl, rfl, hw', bn_up ha, bw'⟩
theorem lst_at {v : List Int} {j : Int} (j0 : 0 ≤ j) (j1 : j < (v.length : Int)) : dIdx (.lst (v.map D.int)) (.int j) = some (.int (v.getD j.toNat 0)) := by
  refine idx_items rfl j0 ?_
  rw [List.getElem?_map, List.getD_eq_getElem?_getD, List.getElem?_eq_getElem (show j.toNat < v.length by omega)]
  rfl
theorem ix_in {ns : List Int} {r : Int} (h0 : 0 ≤ r) (h : r < ns.length) : ixN (ns.map D.int).length r = some r.toNat := by
  unfold ixN
  rw [List.length_map, if_pos h0, if_pos (by omega)]
theorem getD_in {v : List Int} {j : Int} (j0 : 0 ≤ j) (j1 : j < (v.length : Int)) : v.getD j.toNat 0 ∈ v := by
  rw [List.getD_eq_getElem?_getD, List.getElem?_eq_getElem (show j.toNat < v.length by omega)]
  exact List.getElem_mem _
theorem bn_set {i : Int} {v : List Int} {j : Nat} {z : Int} (h : Bn i v) (z0 : 0 ≤ z) (z1 : z ≤ 5000 + 2 * i) : Bn i (v.set j z) := fun x hx => by
  rcases List.mem_or_eq_of_mem_set hx with hx | rfl
  · exact h x hx
  · exact ⟨z0, z1⟩
theorem set_map (v : List Int) (j : Nat) (z : Int) : (v.map D.int).set j (.int z) = (v.set j z).map D.int := by rw [List.map_set]
theorem pure_L_near (ds : List D) (Q : D → Prop) (Ex : Xc → Prop) (h : F_L_near ds Q Ex) : w_L_near (dEnds Q Ex) (startE N_L_near ds) := by
  obtain ⟨p, ls, cs, rfl, l0, l12, k0, k12, lp, kp, q⟩ := h
  refine fun p1 hp1 p2 hp2 => ⟨Nat.le_of_ble_eq_true rfl, p, 4, rfl, by decide, by decide, fun t t0 t1 => ?_⟩
  have h12 : p2 ≠ p1 := fun e => hp2 (by rw [e]; exact List.mem_cons_self)
  refine ⟨by omega, by omega, ?_⟩
  show forW _ _ _ (Pd.upTo 0 t) [_, _, _, _, _, _, _, _, _, _]
  refine forW_ind (fun rest env => ∃ (i : Int) (s4 s5 s6 s7 s8 : Option Sl) (C : List (Addr × List D)), 0 ≤ i ∧ i ≤ t ∧ Nr p1 p2 ls.length cs.length i C ∧ rest = Pd.upTo i t ∧ env = [some (.d (.box p)), some (.d (Ti ls)), some (.d (Ti cs)), some (.d (.lst [.raw (.ref p1), .raw (.ref p2)])), s4, s5, s6, s7, s8, some (.cels C)]) ?_ ?_ _ _ ⟨0, none, none, none, none, none, _, Int.le_refl _, t0, ⟨ls, cs, rfl, rfl, rfl, fun x hx => by have := lp x hx; omega, fun x hx => by have := kp x hx; omega⟩, rfl, rfl⟩
  · rintro x rest env ⟨i, s4, s5, s6, s7, s8, C, i0, it, I, er, rfl⟩ ih
    by_cases hlt : i < t
    · rw [upTo_cons hlt] at er
      obtain ⟨rfl, rfl⟩ := List.cons.inj er
      refine ⟨p, _, _, rfl, rfl, by simp, Nat.le_of_ble_eq_true rfl, fun y hy => ?_⟩
      obtain ⟨r, v, rfl, hm, v0, v12, bv, nx⟩ := near_get h12 I l0 l12 k0 k12 hy
      have el : (((v.map D.int).length : Nat) : Int) = (v.length : Int) := by rw [List.length_map]
      refine ⟨v.map D.int, hm, p, (((v.map D.int).length : Nat) : Int), rfl, by omega, by omega, fun j j0 j1 => ⟨v.map D.int, hm, p, (((v.map D.int).length : Nat) : Int), rfl, by omega, by omega, fun k k0' k1 => ?_⟩⟩
      rw [el] at j1 k1
      have vj := bv _ (getD_in j0 j1)
      have vk := bv _ (getD_in k0' k1)
      refine ⟨v.map D.int, hm, v.map D.int, hm, _, lst_at j0 j1, p, 2, rfl, by decide, by decide, fun u u0 u1 => ?_⟩
      obtain ⟨z, ez, z0, z2, zj⟩ : ∃ z : Int, z = (if 1 + u < v.getD j.toNat 0 then 1 + u else v.getD j.toNat 0) ∧ 0 ≤ z ∧ z ≤ 2 ∧ z ≤ v.getD j.toNat 0 := ⟨_, rfl, by split <;> omega, by split <;> omega, by split <;> omega⟩
      dsimp only [fAdd, W.bind, W.ret, wNil, W.opt, dMin2]
      show sSeq (sSetC 9 (wVar 5) (wVar 7) (wBin dSub (wIxC 9 (wVar 5) (wVar 7)) (wVar 6))) _ _ [_, _, _, _, _, _, some (.d (.int (if 1 + u < v.getD j.toNat 0 then 1 + u else v.getD j.toNat 0))), _, _, _]
      rw [← ez]
      refine ⟨v.map D.int, hm, v.map D.int, hm, _, lst_at j0 j1, v.map D.int, hm, v.map D.int, hm, _, ix_in j0 j1, ?_⟩
      rw [set_map]
      have bw : Bn (i + 1) (v.set j.toNat (v.getD j.toNat 0 - z)) := bn_set (bn_up bv) (by omega) (by omega)
      obtain ⟨I2, hm2, nx2⟩ := nx (v.set j.toNat (v.getD j.toNat 0 - z)) List.length_set bw
      generalize ew : v.set j.toNat (v.getD j.toNat 0 - z) = w at *
      have lw : w.length = v.length := by rw [← ew, List.length_set]
      have kw : k < (w.length : Int) := by omega
      have wk := bw _ (getD_in k0' kw)
      have wk2 : w.getD k.toNat 0 ≤ 5000 + 2 * i := by
        have e := getD_in k0' kw
        rw [← ew] at e
        rcases List.mem_or_eq_of_mem_set e with e | e
        · rw [ew] at e
          exact (bv _ e).2
        · rw [ew] at e
          omega
      refine ⟨p, 5, rfl, by decide, by decide, fun o o0 o1 => br_of (fun h => ?_) (fun h => ?_)⟩
      · refine ⟨w.map D.int, hm2, w.map D.int, hm2, _, lst_at k0' kw, w.map D.int, hm2, w.map D.int, hm2, _, ix_in k0' kw, ?_⟩
        rw [set_map]
        exact ih _ ⟨i + 1, _, _, _, _, _, _, by omega, by omega, nx2 _ (by rw [List.length_set]; exact lw) (bn_set bw (by omega) (by omega)), rfl, rfl⟩
      · exact ih _ ⟨i + 1, _, _, _, _, _, _, by omega, by omega, I2, rfl, rfl⟩
    · rw [upTo_nil (by omega)] at er
      cases er
  · rintro env ⟨i, s4, s5, s6, s7, s8, C, i0, it, ⟨a, b, rfl, la, lb, ba, bb⟩, er, rfl⟩
    refine ⟨_, idx_items rfl (by decide) rfl, a.map D.int, List.mem_cons_self, _, idx_items rfl (by decide) rfl, b.map D.int, List.mem_cons_of_mem _ List.mem_cons_self, Nat.le_of_ble_eq_true rfl, q a b la lb (fun x hx => by have := ba x hx; omega) (fun x hx => by have := bb x hx; omega)⟩
theorem len_L_near (ds : List D) (Q : D → Prop) (Ex : Xc → Prop) (h : F_L_near ds Q Ex) : ds.length = 3 := by
  obtain ⟨p, ls, cs, rfl, _⟩ := h
  rfl
theorem sum_ok {m : Nat} {r : List Int} (hl : r.length ≤ m) (h : ∀ x ∈ r, 0 ≤ x ∧ x ≤ 9) : 0 ≤ r.sum ∧ r.sum ≤ 9 * (m : Int) := by
  induction r generalizing m with
  | nil => exact ⟨Int.le_refl _, by show (0 : Int) ≤ _; omega⟩
  | cons a r ih =>
    have h1 := h a List.mem_cons_self
    rw [List.length_cons] at hl
    have h2 := ih (m := m - 1) (by omega) fun x hx => h x (List.mem_cons_of_mem _ hx)
    rw [List.sum_cons]
    omega
theorem lsum_small {c : Int} {rs : List (List Int)} (t : Ta.Tb c rs) : Sml 5000 (Ta.lsum rs) := fun x hx => by
  have c9 := t.c9
  obtain ⟨m, m1, m12, hm⟩ := t.w
  obtain ⟨r, hr, rfl⟩ := List.mem_map.mp hx
  have := sum_ok (m := 12) (by rw [hm r hr]; exact m12) fun y hy => by have := t.ce r hr y hy; omega
  omega
theorem csum_small {c : Int} {rs : List (List Int)} (t : Ta.Tb c rs) : Sml 5000 (Ta.csum rs) := lsum_small (Ta.tb_flip t)
end Tr

namespace Tr
open PySem PySem.Spec PyProof.Rows L2 LamX Pd
open Tq (Cn grow bar has)
def rest (n : Nat) (is : List Int) : List Int := ((List.range n).filter fun i : Nat => !is.any fun y => decide (y = (i : Int))).map fun (i : Nat) => (i : Int)
theorem mem_rest {n : Nat} {is : List Int} {x : Int} : x ∈ rest n is ↔ (0 ≤ x ∧ x < (n : Int)) ∧ x ∉ is := by
  unfold rest
  rw [List.mem_map]
  constructor
  · rintro ⟨i, hi, rfl⟩
    obtain ⟨h1, h2⟩ := List.mem_filter.mp hi
    have := List.mem_range.mp h1
    refine ⟨by omega, fun z => ?_⟩
    rw [Bool.not_eq_true', List.any_eq_false] at h2
    exact h2 _ z (decide_eq_true rfl)
  · rintro ⟨⟨h0, h1⟩, h2⟩
    refine ⟨x.toNat, List.mem_filter.mpr ⟨List.mem_range.mpr (by omega), ?_⟩, by omega⟩
    rw [Bool.not_eq_true', List.any_eq_false]
    intro y hy z
    have := of_decide_eq_true z
    rw [Int.toNat_of_nonneg h0] at this
    exact h2 (this ▸ hy)
theorem up_rest (n : Nat) (is : List Int) : (rest n is).Pairwise (· < ·) := by
  unfold rest
  refine List.pairwise_map.mpr ((List.pairwise_lt_range.filter _).imp fun {a b} h => by omega)
theorem nd_of {is : List Int} (h : is.Pairwise (· < ·)) : is.Nodup := h.imp fun {a b} l z => by omega
theorem rest_perm {n k : Nat} {is : List Int} (pk : Pk n k is) : (is ++ rest n is).Perm ((List.range n).map fun (i : Nat) => (i : Int)) := by
  refine (List.perm_ext_iff_of_nodup ?_ ?_).mpr fun x => ?_
  · refine List.nodup_append.mpr ⟨nd_of pk.up, nd_of (up_rest n is), fun a ha b hb z => ?_⟩
    subst z
    exact (mem_rest.mp hb).2 ha
  · exact List.pairwise_map.mpr (List.nodup_range.imp fun {a b} h z => h (by exact_mod_cast z))
  · rw [List.mem_append, mem_rest, List.mem_map]
    constructor
    · rintro (h | ⟨⟨h0, h1⟩, _⟩)
      · have := pk.rg x h
        exact ⟨x.toNat, List.mem_range.mpr (by omega), by omega⟩
      · exact ⟨x.toNat, List.mem_range.mpr (by omega), by omega⟩
    · rintro ⟨i, hi, rfl⟩
      have := List.mem_range.mp hi
      by_cases z : (i : Int) ∈ is
      · exact .inl z
      · exact .inr ⟨by omega, z⟩
theorem rest_pk {n k : Nat} {is : List Int} (pk : Pk n k is) : Pk n (n - k) (rest n is) ∧ k ≤ n := by
  have := (rest_perm pk).length_eq
  rw [List.length_append, pk.ln, List.length_map, List.length_range] at this
  exact ⟨⟨by omega, up_rest n is, fun x hx => (mem_rest.mp hx).1⟩, by omega⟩
theorem sat_rest {l : List Int} {k : Nat} {is : List Int} (pk : Pk l.length k is) : sat l is + sat l (rest l.length is) = l.sum := by
  have p := Qg.perm_sum ((rest_perm pk).map fun i : Int => l.getD i.toNat 0)
  rw [List.map_append, List.sum_append, List.map_map] at p
  refine Eq.trans p ?_
  have e : (List.range l.length).map ((fun i : Int => l.getD i.toNat 0) ∘ fun (i : Nat) => (i : Int)) = l := Qg.map_fn_range l
  rw [e]
theorem rm_less {c : Int} {n k : Nat} (c0 : 0 ≤ c) (hk : k ≤ n) : ∀ {r : List Int}, (∀ x ∈ r, x ≤ c * n) → Qg.rm c (less (c * n) r) (n - k) = (c * n - c * k) * r.length - r.sum + Qg.rm c r k
  | [], _ => by simp [Qg.rm, less]
  | x :: r, h => by
    have ih := rm_less c0 hk (r := r) fun y hy => h y (List.mem_cons_of_mem _ hy)
    have hx := h x List.mem_cons_self
    have e1 : Qg.rm c (less (c * n) (x :: r)) (n - k) = min (c * ((n - k : Nat) : Int)) (c * n - x) + Qg.rm c (less (c * n) r) (n - k) := by simp [Qg.rm, less]
    have e2 : Qg.rm c (x :: r) k = min (c * k) x + Qg.rm c r k := by simp [Qg.rm]
    have e3 : c * ((n - k : Nat) : Int) = c * n - c * k := by
      rw [← Int.mul_sub]
      congr 1
      omega
    have e4 := Qg.mul_succ' (c * n - c * k) r.length
    rw [e1, e2, List.sum_cons, List.length_cons, e4, ih, e3]
    omega
end Tr

namespace Mf
open Qg (fn rm sm Feas)
def OkR (cap : Int) (m : Nat) (r : List Int) : Prop := r.length = m ∧ ∀ x ∈ r, 0 ≤ x ∧ x ≤ cap
def sub (c r : List Int) : List Int := List.zipWith (· - ·) c r
def Rc (cap : Int) : List Int → List Int → List Int → Prop
  | [], c, x => x = c
  | l :: ls, c, x => ∃ r, OkR cap c.length r ∧ r.sum ≤ l ∧ Rc cap ls (sub c r) x
theorem ext_fn {a b : List Int} (l : a.length = b.length) (h : ∀ j, j < a.length → fn a j = fn b j) : a = b := by
  refine List.ext_getElem l fun j h1 h2 => ?_
  have := h j h1
  simpa [fn, List.getD_eq_getElem?_getD, h1, h2] using this
theorem sub_len {c r : List Int} (h : r.length = c.length) : (sub c r).length = c.length := by simp [sub, h]
theorem fn_sub {c r : List Int} (h : r.length = c.length) {j : Nat} (hj : j < c.length) : fn (sub c r) j = fn c j - fn r j := by
  simp [fn, sub, List.getD_eq_getElem?_getD, List.getElem?_zipWith, hj, h]
theorem sum_sub : ∀ {c r : List Int}, r.length = c.length → (sub c r).sum = c.sum - r.sum
  | [], [], _ => rfl
  | a :: c, b :: r, h => by
    have := sum_sub (c := c) (r := r) (by simpa using h)
    show (a - b) + (sub c r).sum = (a + c.sum) - (b + r.sum)
    omega
section
variable {cap : Int}
theorem rc_perm {ls ls' : List Int} (p : ls.Perm ls') : ∀ {c x : List Int}, Rc cap ls c x → Rc cap ls' c x := by
  induction p with
  | nil => exact fun h => h
  | cons l _ ih => exact fun ⟨r, a, b, h⟩ => ⟨r, a, b, ih h⟩
  | swap l l' ls =>
    rintro c x ⟨r, a, b, r', a', b', h⟩
    rw [sub_len a.1] at a'
    refine ⟨r', a', b', r, by rw [sub_len a'.1]; exact a, b, ?_⟩
    have e : sub (sub c r') r = sub (sub c r) r' := by
      have l1 := sub_len a.1
      have l2 := sub_len a'.1
      have m1 : (sub (sub c r') r).length = c.length := (sub_len (by rw [l2]; exact a.1)).trans l2
      have m2 : (sub (sub c r) r').length = c.length := (sub_len (by rw [l1]; exact a'.1)).trans l1
      refine ext_fn (m1.trans m2.symm) fun j hj => ?_
      rw [m1] at hj
      rw [fn_sub (by rw [l2]; exact a.1) (by rw [l2]; exact hj), fn_sub a'.1 hj, fn_sub (by rw [l1]; exact a'.1) (by rw [l1]; exact hj), fn_sub a.1 hj]
      omega
    rw [e]
    exact h
  | trans _ _ ih1 ih2 => exact fun h => ih2 (ih1 h)
theorem rc_app : ∀ {a b c x : List Int}, Rc cap (a ++ b) c x ↔ ∃ y, Rc cap a c y ∧ Rc cap b y x
  | [], b, c, x => ⟨fun h => ⟨c, rfl, h⟩, fun ⟨y, h1, h2⟩ => by rw [show y = c from h1] at h2; exact h2⟩
  | l :: a, b, c, x => by
    constructor
    · rintro ⟨r, h1, h2, h3⟩
      obtain ⟨y, h4, h5⟩ := rc_app.mp h3
      exact ⟨y, ⟨r, h1, h2, h4⟩, h5⟩
    · rintro ⟨y, ⟨r, h1, h2, h4⟩, h5⟩
      exact ⟨r, h1, h2, rc_app.mpr ⟨y, h4, h5⟩⟩
theorem fn_ok {m : Nat} {r : List Int} (h : OkR cap m r) {j : Nat} (hj : j < m) : 0 ≤ fn r j ∧ fn r j ≤ cap := h.2 _ (Qg.fn_mem (by rw [h.1]; exact hj))
theorem rc_fn : ∀ {ls c x : List Int}, Rc cap ls c x → x.length = c.length ∧ ∀ j, j < c.length → fn x j ≤ fn c j ∧ fn c j - fn x j ≤ cap * ls.length
  | [], c, x, h => by
    rw [show x = c from h]
    exact ⟨rfl, fun j _ => ⟨Int.le_refl _, by simp⟩⟩
  | l :: ls, c, x, ⟨r, h1, h2, h3⟩ => by
    obtain ⟨e, b⟩ := rc_fn h3
    rw [sub_len h1.1] at e b
    refine ⟨e, fun j hj => ?_⟩
    have := b j hj
    rw [fn_sub h1.1 hj] at this
    have k := fn_ok h1 hj
    rw [List.length_cons, Qg.mul_succ']
    omega
theorem rc_sum : ∀ {ls c x : List Int}, Rc cap ls c x → c.sum - x.sum ≤ ls.sum
  | [], c, x, h => by rw [show x = c from h]; simp
  | l :: ls, c, x, ⟨r, h1, h2, h3⟩ => by
    have := rc_sum h3
    rw [sum_sub h1.1] at this
    rw [List.sum_cons]
    omega
theorem le_rm {K : Int} : ∀ {c y : List Int}, y.length = c.length → (∀ j, j < c.length → 0 ≤ fn y j ∧ fn c j - fn y j ≤ K) → c.sum - y.sum ≤ (c.map fun z => min K z).sum
  | [], [], _, _ => by simp
  | a :: c, b :: y, l, h => by
    have h0 := h 0 (by simp)
    have := le_rm (c := c) (y := y) (K := K) (by simpa using l) fun j hj => by simpa [fn] using h (j + 1) (by simpa using hj)
    have h0 : 0 ≤ b ∧ a - b ≤ K := by simpa [fn] using h0
    rw [List.sum_cons, List.sum_cons, List.map_cons, List.sum_cons]
    omega
theorem weak {ls c x a b : List Int} (h : Rc cap ls c x) (x0 : ∀ z ∈ x, 0 ≤ z) (p : ls.Perm (a ++ b)) : c.sum - x.sum ≤ b.sum + rm cap c a.length := by
  obtain ⟨y, h1, h2⟩ := rc_app.mp (rc_perm p h)
  have s := rc_sum h2
  obtain ⟨l1, b1⟩ := rc_fn h1
  obtain ⟨l2, b2⟩ := rc_fn h2
  have := le_rm (K := cap * a.length) l1 fun j hj => by
    have := b1 j hj
    have := b2 j (by rw [l1]; exact hj)
    have := x0 _ (Qg.fn_mem (l := x) (i := j) (by rw [l2, l1]; exact hj))
    omega
  unfold rm
  omega
end
section
variable {G : Nat → Int}
def lw (G : Nat → Int) : Int → Nat → List Int → List Int
  | _, _, [] => []
  | acc, k, x :: d => min x (G (k + 1) - acc) :: lw G (acc + min x (G (k + 1) - acc)) (k + 1) d
theorem lw_len : ∀ (d : List Int) (acc : Int) (k : Nat), (lw G acc k d).length = d.length
  | [], _, _ => rfl
  | x :: d, acc, k => congrArg (· + 1) (lw_len d _ _)
theorem lw_acc {x acc : Int} {k : Nat} : acc + min x (G (k + 1) - acc) ≤ G (k + 1) := by omega
theorem lw_bd (up : ∀ k, G k ≤ G (k + 1)) : ∀ {d : List Int} {acc : Int} {k : Nat}, acc ≤ G k → (∀ x ∈ d, 0 ≤ x) → ∀ i, i < d.length → 0 ≤ fn (lw G acc k d) i ∧ fn (lw G acc k d) i ≤ fn d i
  | x :: d, acc, k, ha, h0, 0, _ => by
    have := up k
    have := h0 x List.mem_cons_self
    show 0 ≤ min x (G (k + 1) - acc) ∧ min x (G (k + 1) - acc) ≤ x
    omega
  | x :: d, acc, k, ha, h0, i + 1, hi => by
    have := lw_bd up (d := d) (acc := acc + min x (G (k + 1) - acc)) (k := k + 1) lw_acc (fun y hy => h0 y (List.mem_cons_of_mem _ hy)) i (by simpa using hi)
    simpa [fn, lw] using this
theorem lw_pre : ∀ {d : List Int} {acc : Int} {k : Nat}, acc ≤ G k → ∀ i, i ≤ d.length → acc + ((lw G acc k d).take i).sum ≤ G (k + i)
  | d, acc, k, ha, 0, _ => by simpa using ha
  | [], acc, k, ha, i + 1, hi => by simp at hi
  | x :: d, acc, k, ha, i + 1, hi => by
    have := lw_pre (d := d) (acc := acc + min x (G (k + 1) - acc)) (k := k + 1) lw_acc i (by simpa using hi)
    rw [show k + 1 + i = k + (i + 1) by omega] at this
    show acc + (min x (G (k + 1) - acc) + ((lw G (acc + min x (G (k + 1) - acc)) (k + 1) d).take i).sum) ≤ _
    omega
theorem lw_sum : ∀ (d : List Int) (acc : Int) (k : Nat), acc + (lw G acc k d).sum = acc + d.sum ∨ ∃ i, i ≤ d.length ∧ acc + (lw G acc k d).sum = G (k + i) + (d.drop i).sum
  | [], acc, k => .inl rfl
  | x :: d, acc, k => by
    have e : acc + (lw G acc k (x :: d)).sum = (acc + min x (G (k + 1) - acc)) + (lw G (acc + min x (G (k + 1) - acc)) (k + 1) d).sum := by
      show acc + List.sum (min x (G (k + 1) - acc) :: lw G (acc + min x (G (k + 1) - acc)) (k + 1) d) = _
      rw [List.sum_cons]
      omega
    rcases lw_sum d (acc + min x (G (k + 1) - acc)) (k + 1) with h | ⟨i, hi, h⟩
    · by_cases z : x ≤ G (k + 1) - acc
      · left
        rw [e, h, List.sum_cons]
        omega
      · refine .inr ⟨1, by simp, ?_⟩
        rw [e, h]
        show _ = G (k + 1) + d.sum
        omega
    · refine .inr ⟨i + 1, by simpa using hi, ?_⟩
      rw [e, h, show k + 1 + i = k + (i + 1) by omega]
      rfl
theorem lw_sorted (less : ∀ k, G (k + 2) - G (k + 1) ≤ G (k + 1) - G k) : ∀ {d : List Int} {acc : Int} {k : Nat}, acc ≤ G k → (d.Pairwise fun a b => b ≤ a) → (lw G acc k d).Pairwise fun a b => b ≤ a
  | [], _, _, _, _ => .nil
  | [x], _, _, _, _ => List.pairwise_singleton _ _
  | x :: y :: d, acc, k, ha, h => by
    have t := lw_sorted less (d := y :: d) (acc := acc + min x (G (k + 1) - acc)) (k := k + 1) lw_acc (List.pairwise_cons.mp h).2
    refine List.pairwise_cons.mpr ⟨fun z hz => ?_, t⟩
    have xy := (List.pairwise_cons.mp h).1 y List.mem_cons_self
    have hd : min y (G (k + 1 + 1) - (acc + min x (G (k + 1) - acc))) ≤ min x (G (k + 1) - acc) := by
      have := less k
      rw [show k + 1 + 1 = k + 2 from rfl]
      omega
    rcases List.mem_cons.mp hz with e | hz
    · rw [e]
      exact hd
    · exact Int.le_trans ((List.pairwise_cons.mp t).1 z hz) hd
end
section
variable {cap : Int} {cs : List Int}
theorem rm_zero (cs0 : ∀ c ∈ cs, 0 ≤ c) : rm cap cs 0 = 0 := by
  unfold rm
  induction cs with
  | nil => rfl
  | cons c cs ih =>
    have := cs0 c List.mem_cons_self
    rw [List.map_cons, List.sum_cons, ih fun x hx => cs0 x (List.mem_cons_of_mem _ hx)]
    simp
    omega
theorem rm_up (c0 : 0 ≤ cap) (k : Nat) : rm cap cs k ≤ rm cap cs (k + 1) := by
  unfold rm
  induction cs with
  | nil => exact Int.le_refl _
  | cons c cs ih =>
    rw [List.map_cons, List.map_cons, List.sum_cons, List.sum_cons, Qg.mul_succ'] at *
    omega
theorem rm_less (c0 : 0 ≤ cap) (k : Nat) : rm cap cs (k + 2) - rm cap cs (k + 1) ≤ rm cap cs (k + 1) - rm cap cs k := by
  unfold rm
  induction cs with
  | nil => exact Int.le_refl _
  | cons c cs ih =>
    rw [List.map_cons, List.map_cons, List.map_cons, List.sum_cons, List.sum_cons, List.sum_cons, show k + 2 = (k + 1) + 1 from rfl, Qg.mul_succ' cap (k + 1), Qg.mul_succ' cap k] at *
    omega
theorem rm_perm {cs' : List Int} (p : cs.Perm cs') (k : Nat) : rm cap cs k = rm cap cs' k := Qg.perm_sum (p.map _)
end
theorem min_sum {K : Int} (K0 : 0 ≤ K) : ∀ (l : List Int) (k : Nat), (l.map fun z => min K z).sum ≤ K * k + (l.drop k).sum
  | l, 0 => by
    induction l with
    | nil => simp
    | cons a l ih =>
      simp at *
      omega
  | [], k + 1 => by
    simp
    exact Int.mul_nonneg K0 (by omega)
  | a :: l, k + 1 => by
    have := min_sum K0 l k
    rw [List.map_cons, List.sum_cons, Qg.mul_succ']
    show _ ≤ _ + (l.drop k).sum
    omega
theorem split_at {l : List Int} (so : l.Pairwise fun a b => b ≤ a) (K : Int) : ∃ s, s ≤ l.length ∧ (l.map fun z => min K z).sum = K * s + (l.drop s).sum := by
  induction l with
  | nil => exact ⟨0, Nat.le_refl _, by simp⟩
  | cons a l ih =>
    obtain ⟨h1, h2⟩ := List.pairwise_cons.mp so
    by_cases z : K < a
    · obtain ⟨s, hs, e⟩ := ih h2
      refine ⟨s + 1, by simpa using hs, ?_⟩
      rw [List.map_cons, List.sum_cons, e, Qg.mul_succ']
      show _ = _ + (l.drop s).sum
      omega
    · refine ⟨0, Nat.zero_le _, ?_⟩
      have e : ∀ {m : List Int}, (∀ x ∈ m, x ≤ K) → m.map (fun z => min K z) = m := fun {m} h => by
        induction m with
        | nil => rfl
        | cons b m ihm =>
          rw [List.map_cons, ihm fun x hx => h x (List.mem_cons_of_mem _ hx)]
          have := h b List.mem_cons_self
          congr 1
          omega
      rw [e fun x hx => ?_]
      · simp
      · rcases List.mem_cons.mp hx with rfl | hx
        · omega
        · have := h1 x hx
          omega
section
variable {cap : Int}
theorem rc_of_feas : ∀ {ls d c g : List Int}, ls.length = d.length → (∀ i, i < d.length → fn ls i ≤ fn d i) → g.length = c.length → Feas cap c.length (fn g) ls → Rc cap d c (sub c g)
  | [], [], c, g, _, _, lg, h => by
    refine ext_fn (sub_len lg) fun j hj => ?_
    rw [sub_len lg] at hj
    have := h j hj
    rw [fn_sub lg hj]
    omega
  | l :: ls, x :: d, c, g, hl, le, lg, ⟨r, h1, h2, h3⟩ => by
    have lr : ((List.range c.length).map r).length = c.length := by simp
    have fr : ∀ j, j < c.length → fn ((List.range c.length).map r) j = r j := fun j hj => by simp [fn, List.getD_eq_getElem?_getD, hj]
    have lgr : ((List.range c.length).map r).length = g.length := lr.trans lg.symm
    refine ⟨(List.range c.length).map r, ⟨lr, fun y hy => ?_⟩, ?_, ?_⟩
    · obtain ⟨j, hj, rfl⟩ := List.mem_map.mp hy
      exact h1 j (List.mem_range.mp hj)
    · rw [← Qg.sm_range, h2]
      have := le 0 (by simp)
      simpa [fn] using this
    · have ih := rc_of_feas (ls := ls) (d := d) (c := sub c ((List.range c.length).map r)) (g := sub g ((List.range c.length).map r)) (by simpa using hl) (fun i hi => by simpa [fn] using le (i + 1) (by simpa using hi)) (by rw [sub_len lgr, sub_len lr, lg]) (by
        rw [sub_len lr]
        exact Qg.feas_congr (fun j hj => by rw [fn_sub lgr (by rw [lg]; exact hj), fr j hj]) h3)
      have e : sub (sub c ((List.range c.length).map r)) (sub g ((List.range c.length).map r)) = sub c g := by
        have l1 := sub_len lr
        have l2 : (sub g ((List.range c.length).map r)).length = (sub c ((List.range c.length).map r)).length := by rw [sub_len lgr, l1, lg]
        refine ext_fn (by rw [sub_len l2, l1, sub_len lg]) fun j hj => ?_
        rw [sub_len l2, l1] at hj
        rw [fn_sub l2 (by rw [l1]; exact hj), fn_sub lr hj, fn_sub lgr (by rw [lg]; exact hj), fn_sub lg hj]
        omega
      rw [e] at ih
      exact ih
def cut (cap : Int) (d cs : List Int) (k : Nat) : Int := (d.drop k).sum + rm cap cs k
theorem attain {ls cs d e : List Int} (c0 : 0 ≤ cap) (pd : d.Perm ls) (sd : d.Pairwise fun a b => b ≤ a) (pe : e.Perm cs) (se : e.Pairwise fun a b => b ≤ a) (hl : ∀ x ∈ ls, 0 ≤ x) (hc : ∀ x ∈ cs, 0 ≤ x) :
    ∃ x k, Rc cap ls cs x ∧ (∀ z ∈ x, 0 ≤ z) ∧ k ≤ ls.length ∧ cs.sum - x.sum = cut cap d cs k := by
  have hd : ∀ x ∈ d, 0 ≤ x := fun x hx => hl x (pd.mem_iff.mp hx)
  have he : ∀ x ∈ e, 0 ≤ x := fun x hx => hc x (pe.mem_iff.mp hx)
  have z0 := rm_zero (cap := cap) hc
  -- the lines lowered
  obtain ⟨l', el⟩ : ∃ l', l' = lw (rm cap cs) 0 0 d := ⟨_, rfl⟩
  have a0 : (0 : Int) ≤ rm cap cs 0 := by omega
  have ll : l'.length = d.length := by rw [el]; exact lw_len _ _ _
  have lb : ∀ i, i < d.length → 0 ≤ fn l' i ∧ fn l' i ≤ fn d i := by rw [el]; exact lw_bd (fun k => rm_up c0 k) a0 hd
  have lp : ∀ i, i ≤ d.length → (l'.take i).sum ≤ rm cap cs i := fun i hi => by
    have := lw_pre (G := rm cap cs) a0 i hi
    rw [← el, Nat.zero_add] at this
    omega
  have lso : l'.Pairwise fun a b => b ≤ a := by rw [el]; exact lw_sorted (fun k => rm_less c0 k) a0 sd
  have l0 : ∀ x ∈ l', 0 ≤ x := fun x hx => by
    obtain ⟨i, hi, rfl⟩ := List.mem_iff_getElem.mp hx
    have := (lb i (by omega)).1
    simpa [fn, List.getD_eq_getElem?_getD, hi] using this
  obtain ⟨k, hk, sk⟩ : ∃ k, k ≤ d.length ∧ l'.sum = cut cap d cs k := by
    rcases lw_sum (G := rm cap cs) d 0 0 with h | ⟨i, hi, h⟩
    · rw [← el] at h
      refine ⟨0, Nat.zero_le _, ?_⟩
      unfold cut
      rw [z0, List.drop_zero]
      omega
    · rw [← el, Nat.zero_add] at h
      refine ⟨i, hi, ?_⟩
      unfold cut
      omega
  -- the columns lowered
  obtain ⟨c', ec⟩ : ∃ c', c' = lw (rm cap l') 0 0 e := ⟨_, rfl⟩
  have b0 : (0 : Int) ≤ rm cap l' 0 := by rw [rm_zero l0]; exact Int.le_refl _
  have cl : c'.length = e.length := by rw [ec]; exact lw_len _ _ _
  have cb : ∀ i, i < e.length → 0 ≤ fn c' i ∧ fn c' i ≤ fn e i := by rw [ec]; exact lw_bd (fun k => rm_up c0 k) b0 he
  have cp : ∀ i, i ≤ e.length → (c'.take i).sum ≤ rm cap l' i := fun i hi => by
    have := lw_pre (G := rm cap l') b0 i hi
    rw [← ec, Nat.zero_add] at this
    omega
  have cso : c'.Pairwise fun a b => b ≤ a := by rw [ec]; exact lw_sorted (fun k => rm_less c0 k) b0 se
  have dual : ∀ k, l'.sum ≤ rm cap l' k + (e.drop k).sum := fun k => by
    have K0 : 0 ≤ cap * k := Int.mul_nonneg c0 (by omega)
    obtain ⟨s, hs, es⟩ := split_at lso (cap * k)
    have h1 := lp s (by omega)
    rw [rm_perm pe.symm] at h1
    have h2 := min_sum (K := cap * s) (Int.mul_nonneg c0 (by omega)) e k
    have h3 : (l'.take s).sum + (l'.drop s).sum = l'.sum := by rw [← List.sum_append, List.take_append_drop]
    have h4 : cap * s * k = cap * k * s := by rw [Int.mul_assoc, Int.mul_assoc, Int.mul_comm (s : Int)]
    unfold rm at *
    rw [es]
    omega
  have cs_ : c'.sum = l'.sum := by
    have up := cp e.length (Nat.le_refl _)
    rw [List.take_of_length_le (by omega)] at up
    have le := Qg.rm_le_sum cap e.length l'
    rcases lw_sum (G := rm cap l') e 0 0 with h | ⟨i, hi, h⟩
    · rw [← ec] at h
      have := dual 0
      rw [rm_zero l0, List.drop_zero] at this
      omega
    · rw [← ec, Nat.zero_add] at h
      have := dual i
      omega
  have f := (Qg.has_iff (cap := cap) (lines := c') (cols := l') (d := c') c0 l0 (List.Perm.refl _) cso).mpr ⟨cs_, fun k hk => cp k (by omega)⟩
  obtain ⟨o, po, eo⟩ := Qg.order_of pe
  have lo : o.length = e.length := by rw [po.length_eq, List.length_range]
  have lec : e.length = cs.length := pe.length_eq
  have f2 := Qg.feas_order (cap := cap) (n := c'.length) (o := o) (by rw [cl]; exact po) f
  have lg : (o.map (fn c')).length = cs.length := by rw [List.length_map, lo, lec]
  have fg : ∀ j, j < cs.length → fn (o.map (fn c')) j = fn c' (o.getD j 0) := fun j hj => by
    have : j < o.length := by omega
    simp [fn, List.getD_eq_getElem?_getD, this]
  have fc : ∀ j, j < cs.length → fn cs j = fn e (o.getD j 0) := fun j hj => by
    have : j < o.length := by omega
    rw [← eo]
    simp [fn, List.getD_eq_getElem?_getD, this]
  have r := rc_of_feas (cap := cap) (ls := l') (d := d) (c := cs) (g := o.map (fn c')) ll (fun i hi => (lb i hi).2) lg (by
    rw [cl, lec] at f2
    exact Qg.feas_congr (fun j hj => (fg j hj).symm) f2)
  refine ⟨sub cs (o.map (fn c')), k, rc_perm pd r, fun z hz => ?_, by rw [← pd.length_eq]; exact hk, ?_⟩
  · obtain ⟨j, hj, rfl⟩ := List.mem_iff_getElem.mp hz
    rw [sub_len lg] at hj
    have e1 := fn_sub lg hj
    have e2 : fn (sub cs (o.map (fn c'))) j = (sub cs (o.map (fn c')))[j] := by simp [fn, List.getD_eq_getElem?_getD, sub_len lg, hj]
    have ol := Qg.order_lt po (i := j) (by omega)
    have := cb _ ol
    rw [← e2, e1, fg j hj, fc j hj]
    omega
  · rw [sum_sub lg]
    have : (o.map (fn c')).sum = c'.sum := by
      have p2 : (o.map (fn c')).Perm c' := by
        have := po.map (fn c')
        rw [← cl, Qg.map_fn_range] at this
        exact this
      exact Qg.perm_sum p2
    omega
end
def subs : Nat → List (List Int)
  | 0 => [[]]
  | n + 1 => subs n ++ (subs n).map fun s => s ++ [(n : Int)]
theorem subs_len : ∀ n, (subs n).length = 2 ^ n
  | 0 => rfl
  | n + 1 => by
    rw [subs, List.length_append, List.length_map, subs_len n]
    omega
theorem subs_ok : ∀ (n : Nat) (s : List Int), s ∈ subs n → s.Pairwise (· < ·) ∧ ∀ i ∈ s, 0 ≤ i ∧ i < (n : Int)
  | 0, s, h => by
    rw [List.mem_singleton.mp h]
    exact ⟨.nil, fun _ h => nomatch h⟩
  | n + 1, s, h => by
    rcases List.mem_append.mp h with h | h
    · obtain ⟨a, b⟩ := subs_ok n s h
      exact ⟨a, fun i hi => by have := b i hi; omega⟩
    · obtain ⟨s', hs, rfl⟩ := List.mem_map.mp h
      obtain ⟨a, b⟩ := subs_ok n s' hs
      refine ⟨List.pairwise_append.mpr ⟨a, List.pairwise_singleton _ _, fun x hx y hy => ?_⟩, fun i hi => ?_⟩
      · rw [List.mem_singleton.mp hy]
        exact (b x hx).2
      · rcases List.mem_append.mp hi with hi | hi
        · have := b i hi
          omega
        · rw [List.mem_singleton.mp hi]
          omega
theorem subs_mem : ∀ (n : Nat) (s : List Int), s.Pairwise (· < ·) → (∀ i ∈ s, 0 ≤ i ∧ i < (n : Int)) → s ∈ subs n
  | 0, [], _, _ => List.mem_singleton.mpr rfl
  | 0, i :: s, _, h => by
    have := h i List.mem_cons_self
    omega
  | n + 1, s, up, h => by
    by_cases z : (n : Int) ∈ s
    · have ne : s ≠ [] := fun e => by rw [e] at z; cases z
      have e := List.dropLast_concat_getLast ne
      obtain ⟨last, el⟩ : ∃ y, y = s.getLast ne := ⟨_, rfl⟩
      rw [← el] at e
      have up' := up
      rw [← e] at up' z
      obtain ⟨a, _, c⟩ := List.pairwise_append.mp up'
      have hl : last ∈ s := by rw [el]; exact List.getLast_mem ne
      have b := h last hl
      have en : last = (n : Int) := by
        rcases List.mem_append.mp z with z | z
        · have := c _ z last (List.mem_singleton.mpr rfl)
          omega
        · exact (List.mem_singleton.mp z).symm
      refine List.mem_append_right _ (List.mem_map.mpr ⟨s.dropLast, subs_mem n _ a fun i hi => ?_, by rw [← en]; exact e⟩)
      have := c i hi last (List.mem_singleton.mpr rfl)
      have := (h i (List.dropLast_subset _ hi)).1
      omega
    · refine List.mem_append_left _ (subs_mem n s up fun i hi => ?_)
      have := h i hi
      have : i ≠ (n : Int) := fun e => z (e ▸ hi)
      omega
end Mf

namespace Pd
open PySem PySem.Spec PyProof.Rows L2 LamX NdefX
def keyEnv (env : PEnv) (js : List Nat) (x : D) : PEnv := some (.d x) :: js.map fun j => match gt env j with
  | some (.d y) => some (.d y)
  | _ => none
def wMinKeyE (js : List Nat) (key : W D) (a : W D) : W D := a.bind fun d env Q _ => ∃ (xs : List D) (kf : Nat → Int), d = .lst xs ∧ xs ≠ [] ∧ (∀ x ∈ xs, ∃ ys, x = .tup ys) ∧ (∀ i x, xs[i]? = some x → key (keyEnv env js x) (fun u _ => u = .int (kf i)) fun _ => False) ∧
  ∀ i x, xs[i]? = some x → (∀ j, j < xs.length → kf i ≤ kf j) → Q x env
theorem argBest_lt (num : Nat → Int) : ∀ k, argBest (fun i j => decide (num i < num j)) k ≤ k ∧ ∀ j, j ≤ k → num (argBest (fun i j => decide (num i < num j)) k) ≤ num j
  | 0 => ⟨Nat.le_refl _, fun j hj => by
    obtain rfl : j = 0 := by omega
    exact Int.le_refl _⟩
  | k + 1 => by
    obtain ⟨a, b⟩ := argBest_lt num k
    unfold argBest
    by_cases less : num (k + 1) < num (argBest (fun i j => decide (num i < num j)) k)
    · rw [if_pos (decide_eq_true less)]
      refine ⟨Nat.le_refl _, fun j hj => ?_⟩
      by_cases e : j = k + 1
      · rw [e]
        exact Int.le_refl _
      · have := b j (by omega)
        omega
    · rw [if_neg (by simpa using less)]
      refine ⟨by omega, fun j hj => ?_⟩
      by_cases e : j = k + 1
      · rw [e]
        omega
      · exact b j (by omega)
section
variable {K : PySem.W.Frag} {T : List (Addr × Str)} {c : Ctx} {wd : Wd} {env : PEnv} {σ : L2.St} {H : Hp}
theorem keyEnv_some {js : List Nat} {x : D} {i : Nat} {s : Sl} (h : (keyEnv env js x)[i]? = some (some s)) : ∃ y, s = .d y ∧ ((i = 0 ∧ y = x) ∨ ∃ j, i ≠ 0 ∧ js[i - 1]? = some j ∧ gt env j = some (.d y)) := by
  cases i with
  | zero =>
    cases h
    exact ⟨x, rfl, .inl ⟨rfl, rfl⟩⟩
  | succ i =>
    unfold keyEnv at h
    rw [List.getElem?_cons_succ, List.getElem?_map] at h
    cases e : js[i]? with
    | none =>
      rw [e] at h
      cases h
    | some j =>
      rw [e] at h
      have h := Option.some.inj h
      dsimp only at h
      split at h
      · rename_i y ey
        cases h
        exact ⟨y, rfl, .inr ⟨j, Nat.succ_ne_zero _, e, ey⟩⟩
      · cases h
theorem Rel.capt (r : Rel K T c wd env σ H) {v : V} {x : D} (rx : Rep K wd v x) (js : List Nat) : Rel K T ⟨wd, H, []⟩ wd (keyEnv env js x) (some v :: js.map (slotAt σ)) H := by
  refine ⟨Ord.refl _ _, r.good, Keep.refl _ _, by simp [keyEnv], fun i y e => ?_, fun i xs e => ?_, fun i j xs ys p e _ _ _ => ?_, fun q hq => (nomatch hq), ⟨fun i p C fs e => ?_, fun i j p p' C C' fs gs e _ => ?_, fun i cs e => ?_, fun i cs e => ?_, fun i j cs ds e _ => ?_, fun i lk kvs e => ?_, fun i j lk lk' ks ls p e _ _ _ => ?_⟩⟩
  · obtain ⟨z, ez, h⟩ := keyEnv_some e
    cases ez
    rcases h with ⟨rfl, rfl⟩ | ⟨j, ne, e1, e2⟩
    · exact ⟨v, rfl, rx⟩
    · obtain ⟨u, h1, h2⟩ := r.dat j y (gt_eq _ _ e2)
      refine ⟨u, ?_, h2⟩
      obtain ⟨i, rfl⟩ := Nat.exists_eq_succ_of_ne_zero ne
      rw [List.getElem?_cons_succ, List.getElem?_map]
      have e1' : js[i]? = some j := e1
      rw [e1']
      show some (slotAt σ j) = _
      rw [slotAt_of h1]
  all_goals
    obtain ⟨z, ez, _⟩ := keyEnv_some e
    cases ez
end
theorem vals_refs : ∀ {vs : List V} {us ws : List Value}, (∀ v ∈ vs, ∃ a, v = .ref a) → Vals vs us → Vals vs ws → us = ws
  | _, _, _, _, .nil, .nil => rfl
  | v :: vs, _, _, h, .cons a r, .cons b t => by
    obtain ⟨p, rfl⟩ := h v List.mem_cons_self
    cases a
    cases b
    rw [vals_refs (fun u hu => h u (List.mem_cons_of_mem _ hu)) r t]
theorem Reps.tups {K : PySem.W.Frag} {wd : Wd} : ∀ {vs : List V} {ds : List D}, Reps K wd vs ds → (∀ x ∈ ds, ∃ ys, x = .tup ys) → ∀ v ∈ vs, ∃ a, v = V.ref a
  | _, _, .nil, _ => fun _ h => nomatch h
  | _, _, .cons a t, h => fun v hv => by
    rcases List.mem_cons.mp hv with e | hv
    · obtain ⟨ys, e2⟩ := h _ List.mem_cons_self
      subst e
      subst e2
      cases a
      exact ⟨_, rfl⟩
    · exact Reps.tups t (fun x hx => h x (List.mem_cons_of_mem _ hx)) v hv
section
variable {X : Cx} {T : List (Addr × Str)} {E : XK} {k : Nat}
abbrev keyF (X : Cx) (params : Arguments) (scope : Scope) (c' : Addr) : NF := ⟨"<lambda>", X.env.qual ++ "<lambda>", params, [], scope, cloFrom X.env.cells scope.names [], c'⟩
abbrev keyCx (X : Cx) (fr : List Str) (x : Str) (params : Arguments) (scope : Scope) (f c' : Addr) (A : Around) (outer : List Env) (s : Shared) (H : Hp) (E : XK) : Cx := ncx (L2.CX X.prog X.w) X.prog X.w X.K X.mg X.base (x :: fr) (keyF X params scope c') f A outer s H E
structure Jk (X : Cx) (T : List (Addr × Str)) (c : Ctx) (wd0 : Wd) (env : PEnv) (pins : List (Addr × Obj)) (σ : L2.St) (f c' : Addr) (lam : Obj) (q : Str) (it S : Addr) (s : Shared) : Prop where
  ex : ∃ (wd : Wd) (H : Hp), Inv X pins σ H s ∧ Rel X.K T c wd env σ H ∧ Le wd0 wd ∧ FpOk X pins H S ∧ FpOk X pins H it ∧ H f = none ∧ s.heap.get? f = some lam ∧ H c' = some (CodeO c' q)
theorem je_minKeyE {y x : Str} {fr : List Str} {js : List Nat} {kb : Nat} {a b : Expr} {w key : W D} {params : Arguments} {scope : Scope} {p pos kpos lpos : Pos} (B : Bd X E k) (L : LamT X.K X.mg X.base T y) (hm : X.mg "min" = none) (ha : JE T X E a w)
    (S : KScope X.env.scope scope x) (SN : NScope (x :: fr) [x] fr scope) (hjs : js.map (fun j => X.N[j]?) = fr.map some)
    (hb : ∀ (f c' : Addr) (A : Around) (outer : List Env) (s : Shared) (H : Hp), Bd (keyCx X fr x params scope f c' A outer s H fun _ _ _ => False) (fun _ _ _ => False) kb → JE T (keyCx X fr x params scope f c' A outer s H fun _ _ _ => False) (fun _ _ _ => False) b key)
    (hk : kb + 2 ≤ k := by decide) (hq : X.env.qual ++ "<lambda>" = lamNm y := by rfl) (hcode : X.env.code = .ref (He.codeOf X.K (y, none)) := by rfl) (hdef : defaultsOf params X.env = ([], []) := by rfl)
    (hbind : ∀ (q : Str) (cl : List (Str × Addr)) (pm cv ctv v : Value), bindArgs (PySem.W.kla_fn "<lambda>" q params b scope cl pm cv ctv) ⟨[v], []⟩ = pure [(x, v)] := by intros; rfl)
    (hg : Gl X "min" := by rfl) (he : backTo pos (starEach [a] X.env) = (false, eval a X.env) :: backTo pos (starEach [] X.env) := by rfl)
    (hpl : (backTo pos (starEach [a] X.env)).any (·.1) = false := by rfl)
    (hall : (backToKw pos (keywordEach [⟨some "key", .Lambda params b scope lpos, kpos⟩] X.env)).all (·.1.isSome) = true := by rfl)
    (hnone : (backToKw pos (keywordEach [⟨some "key", .Lambda params b scope lpos, kpos⟩] X.env)).any (·.1.isNone) = false := by rfl)
    (hks : (backToKw pos (keywordEach [⟨some "key", .Lambda params b scope lpos, kpos⟩] X.env)).filterMap (·.1) = [Str.ofString "key"] := by rfl) :
    JE T X E (.Call (.Name "min" p) [a] [⟨some "key", .Lambda params b scope lpos, kpos⟩] pos) (wMinKeyE js key w) := by
  refine ⟨fun pins s σ H Q I ⟨c, wd, env, P, Ex, r, hw, xo, kk⟩ => ?_⟩
  refine wpAny_Call_Name_kw (ld_blt I hg hm (by decide +kernel : bootBuiltins "min" = some (.builtin "min")) (PyProof.Rows.callWith_kw ?_ he hpl hall hnone))
  rw [he]
  refine Calls.spliced_cons (thn (ha.run pins s σ H (fun m H1 => ∃ (xs : List D) (kf : Nat → Int) (wd1 : Wd) (env1 : PEnv), Rep X.K wd1 m (.lst xs) ∧ xs ≠ [] ∧ (∀ x ∈ xs, ∃ ys, x = .tup ys) ∧ (∀ i x, xs[i]? = some x → key (keyEnv env1 js x) (fun u _ => u = .int (kf i)) fun _ => False) ∧ (∀ i x, xs[i]? = some x → (∀ j, j < xs.length → kf i ≤ kf j) → P x env1) ∧ Le wd wd1 ∧ Rel X.K T c wd1 env1 σ H1)
    I ⟨c, wd, env, _, Ex, r, hw, xo, fun m env1 ⟨xs, kf, e1, hn, ht, hkf, q⟩ v wd1 H1 le1 r1 rp1 => ?_⟩) fun v s0 ⟨m, H1, I1, rm, xs, kf, wd1, env1, rp1, hn, ht, hkf, q, le1, r1⟩ => Calls.spliced_nil ?_)
  · subst e1
    exact ⟨xs, kf, wd1, env1, rp1, hn, ht, hkf, q, le1, r1⟩
  obtain ⟨ad, vs, rfl, hM, rs⟩ : ∃ (ad : Addr) (vs : List V), m = V.ref ad ∧ wd1.M ad = some (.lst vs) ∧ Reps X.K wd1 vs xs := by
    cases rp1 with
    | lst h1 h2 => exact ⟨_, _, rfl, h1, h2⟩
  cases rm
  show wpAny _ _ (evalAll [do let v ← eval (.Lambda params b scope lpos) X.env; standAt pos; pure v]) _ _ _
  have hfree : ∀ y ∈ scope.names, y.2 = .free → ∃ c, X.env.cells.lookup y.1 = some c := fun y hy e => (S.free y hy e).elim (fun z => I1.ok.has _ (.inl z)) fun z => I1.ok.has _ (.inr z)
  refine wpAny_evalAll_cons (wpAny_bind (lam_make2 (T := T) I1 L.tb hcode (by rw [hq]; exact L.mem) (fun p hp e => by rw [hq]; exact L.uni p hp e) r1.good.tab hdef hfree fun f c' pm ctv H2 s2 I2 eN T2 made nof nofr code => wpAny_bind (wpAny_standAt (wpAny_pure (wpAny_evalAll_nil ?_)))))
  rw [hks]
  show wpAny _ _ (call (.builtin "min") [.ref ad] [(Str.ofString "key", .ref f)]) _ _ s2
  have r2 : Rel X.K T c wd1 env1 σ H2 := r1.go (Ord.refl _ _) (r1.good.extN eN T2 (hok_siz I2.hok)) (Keep.extN eN)
  have hd := I2.ok.hd B.calm
  obtain ⟨its, va, pl, hz⟩ := I2.list (sub_sqL (K := X.K) r2.good hM)
  have refs := rs.tups ht
  have len : its.length = xs.length := by rw [← va.length, rs.length]
  have alt : ad < s2.heap.objs.size := by
    obtain ⟨o, n, e, _⟩ := pl
    exact Heap.lt_size e
  have flt : f < s2.heap.objs.size := Heap.lt_size made
  have out : ∀ b, s2.heap.objs.size ≤ b → b ∉ frs X.stack := fun b hb z => by
    rcases List.mem_cons.mp (I2.stkSub _ z) with e | e
    · have low := I2.lt
      rw [← e] at low
      exact Nat.lt_irrefl _ (Nat.lt_of_lt_of_le low hb)
    · exact I2.nofs hb e
  refine call_min_walkK (iter_any pl.isList fun s3 e3 st hne => ?_)
  subst e3
  have sz3 : (s2.heap.push { cls := .type "list_iterator", data := .fields #[.ref ad, .int 0 0] }).objs.size = s2.heap.objs.size + 1 := Heap.size_push ..
  have item : ∀ (i : Nat) (v : Value), its.toArray[i]? = some v → ∃ (u : V) (d : D), vs[i]? = some u ∧ xs[i]? = some d ∧ RelV u v ∧ Rep X.K wd1 u d := fun i v hv => by
    have hv : its[i]? = some v := by simpa using hv
    have hi : i < vs.length := by rw [va.length]; exact (List.getElem?_eq_some_iff.mp hv).1
    obtain ⟨w, hw, rw_⟩ := va.get (List.getElem?_eq_getElem hi)
    rw [hv] at hw
    cases hw
    obtain ⟨d, e1, e2⟩ := rs.getV (List.getElem?_eq_getElem hi)
    exact ⟨_, d, List.getElem?_eq_getElem hi, e1, rw_, e2⟩
  refine ⟨_, _, _, _, _, _, _, Jk X T c wd1 env1 pins σ f c' (PySem.W.kla_obj "<lambda>" (X.env.qual ++ "<lambda>") params b scope (cloFrom X.env.cells scope.names []) pm c' ctv) (X.env.qual ++ "<lambda>") s2.heap.objs.size (s2.heap.objs.size + 1), fun i u s => ∃ t, u = .int (kf i) t, fun i j => decide (kf i < kf j), rfl, (Walks.list (A := X.A.in1) hd _ ad hne its.toArray).toS, st, ?_, ?_, ⟨?_, ?_, ?_, ?_⟩, ?_, ?_⟩
  · intro b hb
    show b < (s2.heap.push _).objs.size
    rw [sz3]
    rcases List.mem_cons.mp hb with e | hb
    · have e : b = s2.heap.objs.size := e
      rw [e]
      exact Nat.lt_succ_self _
    · rw [List.mem_singleton.mp hb]
      exact Nat.lt_succ_of_lt alt
  · show 0 < its.toArray.size
    rw [List.size_toArray, len]
    exact List.length_pos_iff.mpr hn
  · rintro s s' ⟨wd', H', I', r', le', fS, fI, f1, f2, f3⟩ M
    have gg : s'.gens = s.gens := M.gens
    have gd : s'.drawn = s.drawn := M.drawn
    have go : s'.os = s.os := M.os
    have hh := M.heap
    rw [sz3] at hh
    have J := I'.turnedL (h' := s'.heap) (t' := s'.toks) (ch := [s2.heap.objs.size + 1, s2.heap.objs.size]) hh (fun b hb => by
      rcases two_of hb with e | e <;> rw [e] <;> assumption)
    refine ⟨wd', H', ?_, r', le', fS, fI, f1, hh f _ (fun hb => by
      rcases two_of hb with e | e
      · exact absurd flt (by rw [e]; exact Nat.not_lt.mpr (Nat.le_succ _))
      · exact absurd flt (by rw [e]; exact Nat.lt_irrefl _)) f2, f3⟩
    obtain ⟨h1, g1, d1, t1, o1⟩ := s
    obtain ⟨h2, g2, d2, t2, o2⟩ := s'
    cases gg
    cases gd
    cases go
    exact J
  · exact fun i u s s' h _ => h
  · rintro i v s o Q0 E0 hi hv ⟨wd', H', I', r', le', fS, fI, f1, f2, f3⟩ hst hS hk0
    obtain ⟨u, d, eu, ed, ru, rd⟩ := item i v hv
    rw [sz3] at hS
    have C := cells_of I' (Caps.made (fr := fr) (js := js) I'.ok S.free (fun y' hy' => PySem.mem_of_lookup (SN.frk y' hy')) hjs)
    have lim := I'.nolimit
    have room : Room (kb + 1) X.A.in1 := (B.room.mono (show kb + 1 + 1 ≤ k from hk)).in1
    have e0 : Env0 X.prog X.w X.K X.mg X.base X.A.in1 X.stack s H' := ⟨I'.env0.frames, I'.env0.mod, I'.env0.bs, I'.env0.bsz, I'.env0.funs, I'.env0.frf, I'.env0.hok, I'.env0.bare⟩
    let Qk : VK := fun z H'' => z = .int (kf i) ∧ ∃ wd'', Rel X.K T c wd'' env1 σ H'' ∧ Le wd' wd'' ∧ Keep wd' H' H''
    have told : codeAny (model X.prog X.w) X.A.in1 (.call (.ref f) ⟨[v], []⟩) (CR (L2.CX X.prog X.w) X.stack X.prog X.w H' s Qk fun _ _ _ => False) s := by
      apply PySem.W.kla_callFunE room.depth f2 rfl S.co S.gen rfl (codeO_at I'.hok f3)
      rw [hbind]
      apply wpAny_pure
      refine wpAny_newFunctionEnv S.nocell (fun y hy => by rw [List.mem_singleton.mp hy]; exact S.par) (fun h1 ns same => ⟨lim.fresh _ same, ?_⟩) S.kind
      apply PySem.W.kla_codeExpr
      have J := inv_startN (CX := L2.CX X.prog X.w) (N := x :: fr) (F := keyF X params scope c') (f := f) (E := fun _ _ _ => False) (vs := [u]) (us := [v]) (tk := s.toks + 1) SN room.hd e0 rfl (.cons ru .nil) C ns fun b o e => same.extBut b o (Nat.ne_of_lt (Heap.lt_size e)) (Heap.get?_push_of_some _ e)
      have est : startF (x :: fr) [u] (js.map (slotAt σ)) = some u :: js.map (slotAt σ) := by
        have l := C.len
        unfold startF
        rw [l]
        simp
      have hr : Room kb (X.A.in1.deeper (envF (keyF X params scope c') f s.heap.objs.size)) := room.deeper _
      have body := hb f c' X.A.in1 X.stack s H' ⟨hr, passes_call (takes_of rfl rfl rfl rfl) fun _ _ _ _ h => h, passes_of rfl, rfl, SN.nd⟩
      refine wpAny_mono (body.run [] _ _ H' Qk J ?_) (fun z s' hz => ?_) fun e s' hz => hz
      · rw [est]
        refine ⟨⟨wd', H', []⟩, wd', keyEnv env1 js d, _, _, r'.capt (rd.mono le') js, hkf i d ed, fun _ z => z.elim, fun z env' ez z1 wd'' H'' le'' r'' rz => ?_⟩
        have ez : z = .int (kf i) := ez
        subst ez
        cases rz
        exact ⟨rfl, wd'', r'.go r''.ord r''.good r''.keep, le'', r''.keep⟩
      · obtain ⟨z1, H'', J', rz, hQ⟩ := hz
        exact ⟨z1, H'', J'.os, J'.bare, J'.base, J'.hok, rz, hQ⟩
    refine wpAny_call (codeAny_mono told fun res s' hr => ?_)
    cases res with
    | error e =>
      obtain ⟨_, _, _, _, _, _, _, _, _, _, _, _, no⟩ := hr
      exact no.elim
    | ok fl =>
      cases fl with
      | next => exact hr.elim
      | brk => exact hr.elim
      | cont => exact hr.elim
      | ret z =>
        obtain ⟨z1, H'', os, bare, un, hok, rz, ez, wd'', r'', le'', kp⟩ := id hr
        subst ez
        obtain ⟨t, rfl⟩ := rz
        have J : Inv X pins σ H'' s' := I'.call' os un hok bare fun b z => absurd z (by simp)
        obtain ⟨oI, hI, _⟩ := id hst.1
        have stay : ∀ {b : Addr} {ob : Obj}, s.heap.get? b = some ob → H' b = none → b ∉ frs X.stack → s'.heap.get? b = some ob ∧ H'' b = none := fun h1 h2 h3 => ⟨un.keep _ _ h1 h2 h3 (by simp), un.free _ _ h1 h2 (by simp)⟩
        obtain ⟨a1, a2⟩ := stay f2 f1 nofr
        obtain ⟨b1, b2⟩ := stay hS fS.1 (out _ (by omega))
        obtain ⟨c1, c2⟩ := stay hI fI.1 (out _ (Nat.le_refl _))
        have code' : H'' c' = some (CodeO c' (X.env.qual ++ "<lambda>")) := kp.st _ _ f3 (fun hb => by
          obtain ⟨_, g, s, cc, e, _⟩ := r'.good.box _ hb
          rw [f3] at e
          cases e) codeO_ne
        obtain ⟨its2, va2, pl2, _⟩ := J.list (sub_sqL (K := X.K) r''.good (le''.m _ _ (le'.m _ _ hM)))
        have same := vals_refs refs va va2
        rw [← same] at pl2
        refine hk0 _ s' ⟨wd'', H'', J, r'', le'.trans le'', ⟨b2, fS.2⟩, ⟨c2, fI.2⟩, a2, a1, code'⟩ ⟨?_, pl2.isList⟩ (by rw [sz3]; exact b1) ⟨t, rfl⟩ fun _ _ h => h
        exact hst.1.at fun ob e => by
          rw [hI] at e
          cases e
          exact c1
  · exact fun i j ki kj s Q0 E0 _ hi hj q0 => CmpOf.ints_lt (P := fun i u => ∃ t, u = Value.int (kf i) t) kf (fun i u h => h) i j ki kj s Q0 E0 hi hj q0
  · have I3 : Inv X pins σ H2 { s2 with heap := s2.heap.push { cls := .type "list_iterator", data := .fields #[.ref ad, .int 0 0] } } := I2.kept (t' := s2.toks) fun b o e => Heap.get?_push_of_some _ e
    exact ⟨wd1, H2, I3, r2, Le.refl _, I2.fpOk (Nat.le_succ _) (I2.hok.fresh (Nat.le_succ _)), I2.fpOk (Nat.le_refl _) (I2.hok.fresh (Nat.le_refl _)), nof, Heap.get?_push_of_some _ made, code⟩
  · rintro v s' hv ⟨wd', H', I', r', le', _⟩
    obtain ⟨u, d, eu, ed, ru, rd⟩ := item _ v hv
    obtain ⟨b1, b2⟩ := argBest_lt kf (its.toArray.size - 1)
    refine ⟨u, H', I', ru, kk _ env1 (q _ d ed fun j hj => b2 j ?_) _ wd' H' (le1.trans le') r' (rd.mono le')⟩
    rw [List.size_toArray, len]
    omega
end
end Pd

namespace Pd
open PySem PySem.Spec PyProof.Rows L2 LamX
section
variable {κ : Type} [DecidableEq κ] {K : PySem.W.Frag} {wd : Wd}
def putG (ks : List (κ × D)) (k : κ) (d : D) : List (κ × D) := if (ks.any fun kv => decide (kv.1 = k)) = true then ks.map (fun kv => if kv.1 = k then (kv.1, d) else kv) else ks ++ [(k, d)]
def lookG (ds : List (κ × D)) (k : κ) : Option D := (ds.find? fun kv => decide (kv.1 = k)).map (·.2)
theorem any_keysG {k : κ} : ∀ {vs : List (κ × V)} {ds : List (κ × D)}, vs.map (·.1) = ds.map (·.1) → (vs.any fun kv => decide (kv.1 = k)) = ds.any fun kv => decide (kv.1 = k)
  | [], [], _ => rfl
  | [], _ :: _, e => by simp at e
  | _ :: _, [], e => by simp at e
  | (a, v) :: vs, (b, d) :: ds, e => by
    rw [List.map_cons, List.map_cons] at e
    obtain ⟨e1, e2⟩ := List.cons.inj e
    have e1 : a = b := e1
    rw [List.any_cons, List.any_cons, any_keysG e2]
    show (decide (a = k) || _) = (decide (b = k) || _)
    rw [e1]
theorem put_mapG {k : κ} {v : V} {d : D} (rv : Rep K wd v d) : ∀ {vs : List (κ × V)} {ds : List (κ × D)}, vs.map (·.1) = ds.map (·.1) → Reps K wd (vs.map (·.2)) (ds.map (·.2)) →
    (vs.map fun kv => if kv.1 = k then (kv.1, v) else kv).map (·.1) = (ds.map fun kv => if kv.1 = k then (kv.1, d) else kv).map (·.1) ∧ Reps K wd ((vs.map fun kv => if kv.1 = k then (kv.1, v) else kv).map (·.2)) ((ds.map fun kv => if kv.1 = k then (kv.1, d) else kv).map (·.2))
  | [], [], _, _ => ⟨rfl, .nil⟩
  | [], _ :: _, e, _ => by simp at e
  | _ :: _, [], e, _ => by simp at e
  | (a, x) :: vs, (b, y) :: ds, e, r => by
    rw [List.map_cons, List.map_cons] at e
    obtain ⟨e1, e2⟩ := List.cons.inj e
    have e1 : a = b := e1
    cases r with
    | cons r1 r2 =>
      obtain ⟨i1, i2⟩ := put_mapG rv e2 r2
      subst e1
      by_cases h : a = k
      · simp only [List.map_cons, h, if_true]
        exact ⟨by rw [i1], .cons rv i2⟩
      · simp only [List.map_cons, h, if_false]
        exact ⟨by rw [i1], .cons r1 i2⟩
theorem put_repsG {k : κ} {v : V} {d : D} (rv : Rep K wd v d) {vs : List (κ × V)} {ds : List (κ × D)} (e : vs.map (·.1) = ds.map (·.1)) (r : Reps K wd (vs.map (·.2)) (ds.map (·.2))) :
    (putK vs k v).map (·.1) = (putG ds k d).map (·.1) ∧ Reps K wd ((putK vs k v).map (·.2)) ((putG ds k d).map (·.2)) := by
  unfold putK putG
  rw [any_keysG e]
  split
  · exact put_mapG rv e r
  · rw [List.map_append, List.map_append, List.map_append, List.map_append, e]
    exact ⟨rfl, r.snoc rv⟩
theorem look_repsG {k : κ} : ∀ {vs : List (κ × V)} {ds : List (κ × D)}, vs.map (·.1) = ds.map (·.1) → Reps K wd (vs.map (·.2)) (ds.map (·.2)) → ∀ z, lookG ds k = some z → ∃ v, valV vs k = some v ∧ Rep K wd v z
  | [], [], _, _, z, h => by cases h
  | (a, v) :: vs, (b, d) :: ds, e, r, z, h => by
    have e1 : a = b := by simpa using (List.cons.inj e).1
    subst e1
    cases r with
    | cons r0 r1 =>
      unfold lookG at h
      unfold valV
      rw [List.find?_cons] at h ⊢
      by_cases hk : a = k
      · have : decide (a = k) = true := decide_eq_true hk
        simp only [this] at h ⊢
        cases h
        exact ⟨v, rfl, r0⟩
      · have : decide (a = k) = false := decide_eq_false hk
        simp only [this] at h ⊢
        exact look_repsG (List.cons.inj e).2 r1 z h
  | [], _ :: _, e, _, _, _ => by cases e
  | _ :: _, [], e, _, _, _ => by cases e
end
def iK (ns : List Int) : List Key := ns.map Sum.inl
theorem iK_V (ns : List Int) : (iK ns).map kV = ns.map V.int := by
  unfold iK
  rw [List.map_map]
  rfl
def keyT (k : List Key) : D := .tup (k.map kD)
theorem reps_key {K : PySem.W.Frag} {wd : Wd} : ∀ k : List Key, Reps K wd (k.map kV) (k.map kD)
  | [] => .nil
  | k :: ks => .cons (rep_key k) (reps_key ks)
def dcuIs (env : PEnv) (i : Nat) (P : List (List Key × D) → Prop) : Prop := match gt env i with
  | some (.dct none (.t ks)) => P ks
  | _ => False
theorem dcuIs_inv {env : PEnv} {i : Nat} {P : List (List Key × D) → Prop} (h : dcuIs env i P) : ∃ ks, gt env i = some (.dct none (.t ks)) ∧ P ks := by
  unfold dcuIs at h
  split at h
  · rename_i ks e
    exact ⟨ks, e, h⟩
  · exact h.elim
section
variable {K : PySem.W.Frag} {T : List (Addr × Str)} {c : Ctx} {wd wd' : Wd} {env env' : PEnv} {σ σ' : L2.St} {H H' : Hp}
theorem Ext.addF (x : Ext K c wd env σ H) {p : Addr} {od : Obj} {us : List (List Key × V)} (hm : wd.M p = none) (h : H p = some (.frz od (.dT us))) (nd : ∀ (j : Nat) (lk : Option Obj) (ks : DK D), env[j]? = some (some (.dct lk ks)) → σ[j]? ≠ some (some (.ref p))) :
    Ext K c (wd.add p (.frz od (.dT us))) env σ H := by
  have le : Le wd (wd.add p (.frz od (.dT us))) := Le.add hm
  refine ⟨fun i p0 C fs e => ?_, x.ob1, fun i cs e q hq => ?_, x.cnd, x.ce1, fun i lk kvs e => ?_, x.dc1⟩
  · obtain ⟨dx, ws, h1, h2, h3, h4, h5, h6⟩ := x.obj i p0 C fs e
    refine ⟨dx, ws, h1, h2, upd_none h3 (fun z => ?_), h4, h5, h6.mono le⟩
    rw [z, h] at h2
    cases h2
  · obtain ⟨⟨ws, h1, h2⟩, h3, h4, h5, h6⟩ := x.cel i cs e q hq
    refine ⟨⟨ws, h1, h2.mono le⟩, upd_none h3 (fun z => ?_), h4, h5, h6⟩
    rw [z, h] at h1
    cases h1
  · obtain ⟨p0, ws, h1, h2, h3, h4, h5, h6⟩ := x.dct i lk kvs e
    exact ⟨p0, ws, h1, h2, upd_none h3 (fun z => nd i lk kvs e (by rw [← z]; exact h1)), h4, h5, h6.mono le⟩
theorem Rel.frzDct (r : Rel K T c wd env σ H) {i : Nat} {od : Obj} {ks : List (List Key × D)} (e : env[i]? = some (some (.dct (some od) (.t ks)))) :
    ∃ (p : Addr) (wd' : Wd), σ[i]? = some (some (.ref p)) ∧ Le wd wd' ∧ Rel K T c wd' (env.set i (some (.d (.dit ks)))) σ H ∧ Rep K wd' (.ref p) (.dit ks) := by
  obtain ⟨p, vs, h1, h2, h3, h4, h5, h6⟩ := dct_t (r.ext.dct i (some od) (.t ks) e)
  have h2 : H p = some (.frz od (.dT vs)) := h2
  have le : Le wd (wd.add p (.frz od (.dT vs))) := Le.add h3
  have hr : Rep K (wd.add p (.frz od (.dT vs))) (.ref p) (.dit ks) := .dit upd_same h5 (h6.mono le)
  have hil : i < env.length := (List.getElem?_eq_some_iff.mp e).1
  have uq : ∀ {a : Addr} {o : HO}, (wd.add p (.frz od (.dT vs))).M a = some o → (a = p ∧ o = .frz od (.dT vs)) ∨ wd.M a = some o := fun {a o} z => by
    by_cases ha : a = p
    · subst ha
      have z' : upd wd.M a (.frz od (.dT vs)) a = some o := z
      rw [upd_same] at z'
      cases z'
      exact .inl ⟨rfl, rfl⟩
    · have z' : upd wd.M p (.frz od (.dT vs)) a = some o := z
      rw [upd_ne ha] at z'
      exact .inr z'
  have nl : ∀ {a : Addr} {us : List V}, H a = some (.lst us) → a ≠ p := fun {a us} e z => by
    rw [z, h2] at e
    cases e
  have stay : ∀ {l : Nat} {s : Sl}, (env.set i (some (.d (.dit ks))))[l]? = some (some s) → (∀ d, s ≠ .d d) → i ≠ l ∧ env[l]? = some (some s) := fun {l s} q n => by
    rcases get_set q with ⟨rfl, q, _⟩ | ⟨ne, q⟩
    · cases q
      exact absurd rfl (n _)
    · exact ⟨ne, q⟩
  have x1 : Ext K c wd (env.set i (some (.d (.dit ks)))) σ H := r.ext.sl (fun l s q n1 n2 => ⟨(stay q n1).2, rfl⟩) fun l ys q => .inl ⟨ys, (stay q fun _ z => nomatch z).2, rfl⟩
  refine ⟨p, _, h1, le, ⟨⟨r.ord.le.trans le, fun a o q => ?_, r.ord.fb⟩, ⟨fun a o z => ?_, fun a o z => ?_, fun b hb => ?_, r.good.tab, r.good.siz⟩, r.keep, by rw [List.length_set]; exact r.len, fun j y q => ?_, fun j ys q => ?_, fun j l as bs z e1 e2 e3 e4 => ?_, fun q hq => ?_, x1.addF h3 h2 fun j lk ls q z => ?_⟩, hr⟩
  · rcases uq q with ⟨rfl, rfl⟩ | z
    · exact .inr (.inl h4)
    · exact r.ord.fm a o z
  · rcases uq z with ⟨rfl, rfl⟩ | z
    · exact h2
    · exact r.good.sub a o z
  · rcases uq z with ⟨rfl, rfl⟩ | z
    · exact ⟨(fun _ h => nomatch h), trivial⟩
    · exact r.good.ntb a o z
  · obtain ⟨z1, z2⟩ := r.good.box b hb
    refine ⟨?_, z2⟩
    obtain ⟨_, _, _, e, _⟩ := z2
    exact upd_none z1 (nl e)
  · rcases get_set q with ⟨rfl, q, _⟩ | ⟨ne, q⟩
    · cases q
      exact ⟨.ref p, h1, hr⟩
    · obtain ⟨v, z1, z2⟩ := r.dat j y q
      exact ⟨v, z1, z2.mono le⟩
  · obtain ⟨q, us, z1, z2, z3, z4, z5, z6⟩ := r.own j ys (stay q fun _ z => nomatch z).2
    exact ⟨q, us, z1, z2, upd_none z3 (nl z2), z4, z5, z6.mono le⟩
  · exact r.sep j l as bs z (stay e1 fun _ z => nomatch z).2 (stay e2 fun _ z => nomatch z).2 e3 e4
  · obtain ⟨z1, z2, z3, z4⟩ := r.pin q hq
    exact ⟨z1, upd_none z2 (nl z1), z3, ⟨fun l ys e => z4.o l ys (stay e fun _ z => nomatch z).2, fun l cs e => z4.c l cs (stay e fun _ z => nomatch z).2⟩⟩
  · obtain ⟨ne, q⟩ := stay q fun _ z => nomatch z
    exact ne (r.ext.dc1 i j (some od) lk (.t ks) ls p e q h1 z)
end
section
variable {X : Cx} {T : List (Addr × Str)} {E : XK} {k : Nat} {x : Str} {y e : Expr} {p1 p2 pos pos' apos : Pos}
def tFrz (t : TE) : TE := fun σ H Q => t σ H fun x H1 => ∃ d u, x = .ref d ∧ H1 d = some u ∧ Mut (some u) ∧ ∀ od, Q x (upd H1 d (.frz od u))
theorem pe_frz {t : TE} (h : PE X e t) : PE X e (tFrz t) := by
  refine ⟨fun pins s σ H Q I hw => ?_⟩
  refine thn (h.run pins s σ H _ I hw) fun v s1 q => ?_
  obtain ⟨x, H1, I1, r, d, u, ex, hd, mu, q⟩ := q
  obtain ⟨od, I2⟩ := I1.lock hd mu
  exact ⟨x, _, I2, r, q od⟩
def sNewDct (i : Nat) : WS := fun pe env => pe.nx (env.set i (some (.dct none (.t []))))
theorem js_newDct (i : Nat) (B : Bd X E k) (hi : X.N[i]? = some x := by rfl) (hx : Loc X.env.scope x := by first | exact Or.inl rfl | exact Or.inr rfl) (hs : swapsWith (.Dict [] [] p1) (some (.Name x pos')) pos.line X.env = pure false := by rfl)
    (hf : X.fn x = true ∨ X.env.scope.names.lookup x = some .local := by first | exact .inl rfl | exact .inr rfl) : JS T X E (.Assign [.Name x pos'] (.Dict [] [] p1) pos) (sNewDct i) :=
  psI (ps_set B.nd hi hx pe_dnewT hs hf) fun D σ H ⟨c, wd, env, pe, r, h, o⟩ => fun p hp => o.nx _ h _ wd _ (Le.refl _) (r.newDct (us := .t []) (ls := .t []) hp rfl .nil trivial)
def sDcuPut (i : Nat) (iw ew : W D) : WS := fun pe env => ew env (fun v env1 => dcuIs env1 i fun _ => iw env1 (fun n env2 => dcuIs env2 i fun ks => ∃ ns : List Int, n = .tup (ns.map D.int) ∧ ks.length < 1000000 ∧ pe.nx (env2.set i (some (.dct none (.t (putG ks (iK ns) v)))))) pe.ex) pe.ex
theorem js_dcuPut (i : Nat) {iw ew : W D} (B : Bd X E k) (hi : JE T X E y iw) (he : JE T X E e ew) (hN : X.N[i]? = some x := by rfl) (hv : Vis X.env.scope x := by first | exact Or.inl rfl | exact Or.inr (Or.inl rfl) | exact Or.inr (Or.inr rfl)) (hd : (x == ("__debug__" : Str)) = false := by decide)
    (hcd : (x == ("__classdict__" : Str)) = false := by decide) (hs : swapsWithSole [.Subscript (.Name x p1) y p2] e pos.line X.env = pure false := by rfl) (hw : swappedStores [.Subscript (.Name x p1) y p2] e X.env = pure none := by rfl)
    (h1 : (assignEach [.Subscript (.Name x p1) y p2] X.env).map (·.2) = [assign (.Subscript (.Name x p1) y p2) X.env] := by rfl)
    (hasg : ∀ v, assign (.Subscript (.Name x p1) y p2) X.env v = (do
      let ov ← holding [v] (eval (.Name x p1) X.env)
      let iv ← holding [v, ov] (eval y X.env)
      standAt p2
      holding [v, ov, iv] (setItem ov iv v)
      release [v, ov, iv] []) := by intro _; rfl) : JS T X E (.Assign [.Subscript (.Name x p1) y p2] e pos) (sDcuPut i iw ew) :=
  psI (ps_asg he (pg_sub (pe_var hN hv hd hcd) hi (set_dict (by have := B.room.un; omega)) hasg) hs hw h1) fun D σ H ⟨c, wd, env, pe, rl, h, o⟩ => by
    refine ⟨c, wd, env, _, _, rl, h, o.ex, fun v env1 h1 u wd1 H1 le1 r1 rp1 => ?_⟩
    obtain ⟨ks0, e0, h1⟩ := dcuIs_inv h1
    obtain ⟨p0, vs0, z0, _⟩ := r1.ext.dct i none (.t ks0) (gt_eq _ _ e0)
    refine ⟨.ref p0, z0, c, wd1, env1, _, _, r1, h1, o.ex, fun n env2 h2 w wd2 H2 le2 r2 rp2 => ?_⟩
    obtain ⟨ks, e1, ns, rfl, hl, h3⟩ := dcuIs_inv h2
    obtain ⟨p, vs, z1, z2, z3, z4, z5, z6⟩ := dct_t (r2.ext.dct i none (.t ks) (gt_eq _ _ e1))
    rw [z0] at z1
    cases z1
    cases rp2 with
    | tup hb rb =>
      rw [rb.ints] at hb
      have len : vs.length = ks.length := by
        have := congrArg List.length z5
        rwa [List.length_map, List.length_map] at this
      obtain ⟨d1, d2⟩ := put_repsG (k := iK ns) (Rep.mono le2 rp1) z5 z6
      refine ⟨p0, _, rfl, .inr ⟨vs, iK ns, _, z2, rfl, ?_, ?_, rfl⟩, o.nx _ h3 _ wd2 _ (le1.trans le2) (r2.putDct (us := .t _) (ls := .t _) (lk2 := none) (gt_eq _ _ e1) z0 d1 d2 trivial)⟩
      · rw [iK_V]
        exact r2.good.sub _ _ hb
      · exact Nat.lt_of_lt_of_le (show vs.length < 1000000 by omega) (sz6 (Nat.le_refl _))
def wFrzT (i : Nat) : W D := fun env Q _ => dcuIs env i fun ks => Q (.dit ks) (env.set i (some (.d (.dit ks))))
theorem je_frzT (i : Nat) (hN : X.N[i]? = some x := by rfl) (hv : Vis X.env.scope x := by first | exact Or.inl rfl | exact Or.inr (Or.inl rfl) | exact Or.inr (Or.inr rfl)) (hd : (x == ("__debug__" : Str)) = false := by decide)
    (hcd : (x == ("__classdict__" : Str)) = false := by decide) : JE T X E (.Name x pos) (wFrzT i) :=
  peI (pe_frz (pe_var hN hv hd hcd)) fun σ H Q ⟨c, wd, env, P, Ex, r, h, _, kk⟩ => by
    obtain ⟨ks, e, h⟩ := dcuIs_inv h
    have e := gt_eq _ _ e
    obtain ⟨p, vs, h1, h2, h3, h4, h5, h6⟩ := dct_t (r.ext.dct i none (.t ks) e)
    refine ⟨.ref p, h1, p, .dT vs, rfl, h2, trivial, fun od => ?_⟩
    have r1 : Rel X.K T c wd (env.set i (some (.dct (some od) (.t ks)))) σ (upd H p (.frz od (.dT vs))) := r.putDct (us := .t vs) (ls := .t ks) (lk2 := some od) e h1 h5 h6 trivial
    obtain ⟨p', wd', q1, le, r2, rp⟩ := r1.frzDct (i := i) (od := od) (ks := ks) (List.getElem?_set_self (List.getElem?_eq_some_iff.mp e).1)
    rw [h1] at q1
    cases q1
    rw [List.set_set] at r2
    exact kk _ _ h _ wd' _ le r2 rp
def wDitGet (a b : W D) : W D := a.bind fun x => b.bind fun y env Q _ => ∃ ks ns z, x = .dit ks ∧ y = .tup (ns.map D.int) ∧ lookG ks (iK ns) = some z ∧ Q z env
theorem je_ditGet {o i : Expr} {a b : W D} {pos : Pos} (B : Bd X E k) (ho : JE T X E o a) (hi : JE T X E i b) (hs : NoSl i) : JE T X E (.Subscript o i pos) (wDitGet a b) :=
  peI (pe_dget (by have := B.room.un; omega) ho hi hs) fun σ H Q ⟨c, wd, env, P, Ex, r, h, xo, kk⟩ => ⟨c, wd, env, _, Ex, r, h, xo, fun x env1 h1 v wd1 H1 le1 r1 rp1 => ⟨c, wd1, env1, _, Ex, r1, h1, xo, fun y env2 h2 u wd2 H2 le2 r2 rp2 => by
    obtain ⟨ks, ns, z, rfl, rfl, e1, h3⟩ := h2
    cases rp2 with
    | tup hb rb =>
      rw [rb.ints] at hb
      cases rp1 with
      | dit hd en er =>
        obtain ⟨v, e2, rv⟩ := look_repsG en (er.mono le2) z e1
        exact ⟨_, v, rfl, .inr ⟨_, iK ns, _, .inr ⟨_, r2.good.sub _ _ (le2.m _ _ hd)⟩, rfl, by rw [iK_V]; exact r2.good.sub _ _ hb, e2.symm⟩, kk z env2 h3 v wd2 H2 (le1.trans le2) r2 rv⟩⟩⟩
def wItemsDit (a : W D) : W (List D) := a.bind fun x env Q _ => ∃ ks : List (List Key × D), x = .dit ks ∧ ks.length ≤ 1000000 ∧ Q ((ks.map (·.1)).map keyT) env
theorem ji_dit {tg : Expr} {w : W D} (he : JE T X E e w) : JI T X E tg e (wItemsDit w) :=
  piI (pi_keys he) fun σ H R ⟨c, wd, env, P, Ex, r, h, xo, kk⟩ => ⟨c, wd, env, _, Ex, r, h, xo, fun x env1 h1 v wd1 H1 le1 r1 rp1 => by
    obtain ⟨ks, rfl, hl, h2⟩ := h1
    cases rp1 with
    | dit hd en er =>
      rename_i a o vs
      have ln : vs.length = ks.length := by
        have := congrArg List.length en
        rwa [List.length_map, List.length_map] at this
      refine ⟨_, o, rfl, .inr ⟨vs, r1.good.sub _ _ hd, kk _ env1 h2 _ wd1 H1 le1 r1 ?_ (by rw [List.length_map, List.length_map]; exact sz6 hl)⟩⟩
      unfold WalkD
      rw [List.length_map, List.length_map, ← ln]
      refine (walk_keysT (d := a) (o := o) (kvs := vs)).mono (fun H z => z _ _ hd) fun i H x H' hi z y => ?_
      obtain ⟨rfl, kq, vq, q, e1, rfl, e2⟩ := y
      refine ⟨keyT kq, ?_, .inr (.inr (.inl ⟨q, _, _, rfl, e2, rfl, rfl, reps_key _⟩))⟩
      rw [← en, List.getElem?_map, List.getElem?_map, e1]
      rfl⟩
end
end Pd

namespace Zd
open PySem PySem.Spec PyProof.Rows L2
def putAll (acc kvs : List (List Key × V)) : List (List Key × V) := kvs.foldl (fun acc kv => putK acc kv.1 kv.2) acc
theorem kt_all {H : Hp} : ∀ {kvs : List (List Key × V)} {qs : List (List Key × Addr × Value)}, KT H kvs qs → ∀ {acc : List (List Key × V)} {xs : List (List Key × Addr × Value)}, KT H acc xs → KT H (putAll acc kvs) (storedAllH xs qs)
  | _, _, .nil, _, _, r => r
  | _, _, .cons (a := p) (b := q) h t, acc, xs, r => by
    obtain ⟨h1, h2, h3⟩ := h
    have r2 := r.put (k := p.1) h2 h3
    have := kt_all t r2
    show KT H (putAll (putK acc p.1 p.2) _) (storedAllH (storedH xs q.1 q.2.1 q.2.2) _)
    rw [← h1]
    exact this
section
variable {X : Cx}
theorem key_in {pins : List (Addr × Obj)} {σ : L2.St} {H : Hp} {s : Shared} (I : Inv X pins σ H s) {b : Addr} {k : List Key} (h : H b = some (.tup (k.map kV))) : ∃ its : List Value, IsTup s.heap b its.toArray ∧ ItemsAre (mixKind X.prog X.w) k its := by
  obtain ⟨its, rv, ht, _⟩ := I.tuple (.inl (.inl h))
  exact ⟨its, ht, items_are rv⟩
end
end Zd
namespace Pd
open PySem PySem.Spec PyProof.Rows L2
section
variable {K : PySem.W.Frag} {wd : Wd}
end
section
variable {X : Cx} {T : List (Addr × Str)} {E : XK} {k : Nat} {x : Str} {y e : Expr} {p1 p2 pos pos' apos : Pos}
theorem noTb_frz {o : Obj} {u : HO} : noTb (.frz o u) := fun _ h => nomatch h
end
end Pd

namespace Zd
open PySem PySem.Spec PyProof.Rows L2
section
variable {X : Cx}
def prsV (kvs : List (List Key × V)) (bs : List Addr) : List (V × V) := List.zipWith (fun kv b => (V.ref b, kv.2)) kvs bs
def tDispT (trs : List (TE × TE)) : TE := fun σ H Q => ∀ p, H p = none → tPairs trs σ (upd H p (.dT [])) fun ps H2 => H2 p = some (.dT []) ∧ ∃ (kvs : List (List Key × V)) (bs : List Addr), ps = prsV kvs bs ∧ Paired (fun kv b => H2 b = some (.tup (kv.1.map kV))) kvs bs ∧ kvs.length ≤ 15 ∧
  Q (.ref p) (upd H2 p (.dT (putAll [] kvs)))
theorem carries_in {pins : List (Addr × Obj)} {σ : L2.St} {H : Hp} {s : Shared} (I : Inv X pins σ H s) : ∀ {kvs : List (List Key × V)} {bs : List Addr} {ws : List (Value × Value)}, Paired (fun kv b => H b = some (.tup (kv.1.map kV))) kvs bs → VV (prsV kvs bs) ws →
    ∃ qs : List (List Key × Addr × Value), CarriesH (tupleKind (mixKind X.prog X.w)) s.heap ws qs ∧ KT H kvs qs
  | _, _, _, .nil, r => by
    cases r
    exact ⟨[], trivial, .nil⟩
  | _, _, _, .cons (a := kv) (b := b) h t, r => by
    cases r with
    | @cons a w as ws r1 r2 =>
      obtain ⟨qs, c, k⟩ := carries_in I t r2
      obtain ⟨r3, r4⟩ := r1
      obtain ⟨u, y⟩ := w
      obtain rfl : u = Value.ref b := r3
      obtain ⟨its, ⟨o, y1, y2, n, y3⟩, z2⟩ := key_in I h
      exact ⟨(kv.1, b, y) :: qs, ⟨rfl, rfl, ⟨o, its.toArray, n, y1, y2, y3, z2⟩, c⟩, .cons ⟨rfl, h, r4⟩ k⟩
theorem pe_dispT {pos : Pos} {keys : List (Option Expr)} {values : List Expr} {trs : List (TE × TE)} (hu : X.A.units < cLine) (h : PPs X pos keys values trs) (hall : keys.all (·.isSome) = true) (hl : keys.length = values.length) (h0 : keys ≠ [])
    (h15 : keys.length ≤ 15) : PE X (.Dict keys values pos) (tDispT trs) := by
  refine ⟨fun pins s σ H Q I q => ?_⟩
  have hn := I.hok.fresh (Nat.le_refl s.heap.objs.size)
  have I1 := I.laid (a := s.heap.objs.size) (o := .dT []) (h' := s.heap.push { cls := .type "dict", data := .dict #[] }) (t' := s.toks) (fun _ _ q => Heap.get?_push_of_some _ q) (Nat.le_refl _) (dt_empty s.heap I.big)
  refine wpAny_Dict_any hall hl h0 h15 (thn (h.run pins _ σ _ _ I1 (q _ hn)) fun ws s2 ⟨ps, H2, I2, rel, e, kvs, bs, ep, hk, lk, q2⟩ => ?_)
  subst ep
  obtain ⟨qs, c, kt⟩ := carries_in I2 hk rel
  obtain ⟨z, hd, xs0, r0, dd⟩ := dt_of I2.hok e
  cases r0
  have lq : qs.length ≤ 15 := by rw [← kt.length]; exact lk
  refine wpAny_storeAllH (knd := tupleKind (mixKind X.prog X.w)) hu ws qs [] s2 _ c dd (by rw [sizeLine_eq, List.length_nil]; omega) fun h' tk dd' hs => ?_
  have kt1 : KT H2 (putAll [] kvs) (storedAllH [] qs) := kt_all kt .nil
  have few : (putAll [] kvs).length ≤ sizeLine := by
    rw [kt1.length]
    have := storedAllH_length qs []
    rw [List.length_nil] at this
    rw [sizeLine_eq]
    omega
  have kt2 : KT (upd H2 s.heap.objs.size (.dT (putAll [] kvs))) (putAll [] kvs) (storedAllH [] qs) := kt1.keeps fun b ys z => by
    rw [upd_ne (fun y => by rw [y, e] at z; cases z)]
    exact z
  have he : ∃ q, h'.get? s.heap.objs.size = some q := let ⟨q, _, _, hq, _⟩ := dd'; ⟨q, hq⟩
  obtain ⟨o, es, ep, d1, d2, d3, d4, _, d6⟩ := dd'
  exact ⟨.ref s.heap.objs.size, _, d_write (ob := .dT (putAll [] kvs)) I2 (by rw [e]; exact True.intro) hs he ⟨few, hd, _, kt2, o, es, ep, d1, d2, d3, d4, d6⟩, rfl, q2⟩
end
end Zd

namespace Pd
open PySem PySem.Spec PyProof.Rows L2 LamX
section
variable {K : PySem.W.Frag} {wd : Wd}
theorem val_none {k : List Key} : ∀ {vs : List (List Key × V)} {ds : List (List Key × D)}, vs.map (·.1) = ds.map (·.1) → lookG ds k = none → valV vs k = none
  | [], _, _, _ => rfl
  | _ :: _, [], e, _ => by cases e
  | (a, v) :: vs, (b, d) :: ds, e, h => by
    rw [List.map_cons, List.map_cons] at e
    obtain ⟨e1, e2⟩ := List.cons.inj e
    have e1 : a = b := e1
    subst e1
    unfold lookG at h
    rw [List.find?_cons] at h
    by_cases hk : a = k
    · have : decide (a = k) = true := decide_eq_true hk
      simp only [this] at h
      cases h
    · have : decide (a = k) = false := decide_eq_false hk
      simp only [this] at h
      have h3 := val_none e2 h
      unfold valV at h3 ⊢
      rw [List.find?_cons]
      simp only [this]
      exact h3
theorem look_else {k : List Key} {vs : List (List Key × V)} {ds : List (List Key × D)} (e : vs.map (·.1) = ds.map (·.1)) (r : Reps K wd (vs.map (·.2)) (ds.map (·.2))) {u : V} {z : D} (ru : Rep K wd u z) : Rep K wd ((valV vs k).getD u) ((lookG ds k).getD z) := by
  cases h : lookG ds k with
  | none =>
    rw [val_none e h]
    exact ru
  | some d =>
    obtain ⟨v, e1, rv⟩ := look_repsG e r d h
    rw [e1]
    exact rv
end
section
variable {X : Cx} {T : List (Addr × Str)} {E : XK} {k : Nat} {x : Str} {o e f : Expr} {p1 apos cpos : Pos}
def wDcuGetD (i : Nat) (b c : W D) : W D := fun env Q ex => dcuIs env i fun _ => b env (fun y env1 => c env1 (fun z env2 => dcuIs env2 i fun ks => ∃ ns : List Int, y = .tup (ns.map D.int) ∧ Q ((lookG ks (iK ns)).getD z) env2) ex) ex
theorem je_dcuGetD (i : Nat) {b c : W D} (B : Bd X E k) (he : JE T X E e b) (hf : JE T X E f c) (m : M2 X (.Name x p1) "get" apos e f cpos) (hN : X.N[i]? = some x := by rfl) (hv : Vis X.env.scope x := by first | exact Or.inl rfl | exact Or.inr (Or.inl rfl) | exact Or.inr (Or.inr rfl)) (hd : (x == ("__debug__" : Str)) = false := by decide)
    (hcd : (x == ("__classdict__" : Str)) = false := by decide) : JE T X E (.Call (.Attribute (.Name x p1) "get" apos) [e, f] [] cpos) (wDcuGetD i b c) :=
  peI (pe_dget2 (by have := B.room.un; omega) (pe_var hN hv hd hcd) he hf m) fun σ H Q ⟨c, wd, env, P, Ex, r, h, xo, kk⟩ => by
    obtain ⟨ks0, e0, h⟩ := dcuIs_inv h
    obtain ⟨p0, vs0, z0, zh, _⟩ := dct_t (r.ext.dct i none (.t ks0) (gt_eq _ _ e0))
    refine ⟨.ref p0, z0, p0, rfl, .inr ⟨vs0, .inl zh⟩, c, wd, env, _, Ex, r, h, xo, fun y env1 h1 u wd1 H1 le1 r1 rp1 => ⟨c, wd1, env1, _, Ex, r1, h1, xo, fun z env2 h2 w wd2 H2 le2 r2 rp2 => ?_⟩⟩
    obtain ⟨ks, e1, ns, rfl, h3⟩ := dcuIs_inv h2
    obtain ⟨p, vs, z1, z2, z3, z4, z5, z6⟩ := dct_t (r2.ext.dct i none (.t ks) (gt_eq _ _ e1))
    rw [z0] at z1
    cases z1
    have rp1 := Rep.mono le2 rp1
    cases rp1 with
    | tup hb rb =>
      rw [rb.ints] at hb
      exact ⟨_, .inr ⟨vs, iK ns, _, .inl z2, rfl, by rw [iK_V]; exact r2.good.sub _ _ hb, rfl⟩, kk _ env2 h3 _ wd2 H2 (le1.trans le2) r2 (look_else z5 z6 rp2)⟩
end
end Pd

namespace Pd
open PySem PySem.Spec PyProof.Rows L2 LamX
section
variable {X : Cx} {T : List (Addr × Str)} {E : XK} {k : Nat} {x y : Str} {p1 p2 p3 pos pos' : Pos}
def wDitOne (j : Nat) (n : Int) : W D := fun env Q _ => ∃ ns : List Int, gt env j = some (.d (.tup (ns.map D.int))) ∧ Q (.dit [(iK ns, .int n)]) env
theorem je_ditOne (j : Nat) {n : Int} {jj} (B : Bd X E k) (hN : X.N[j]? = some y := by rfl) (hv : Vis X.env.scope y := by first | exact Or.inl rfl | exact Or.inr (Or.inl rfl) | exact Or.inr (Or.inr rfl)) (hd : (y == ("__debug__" : Str)) = false := by decide) (hcd : (y == ("__classdict__" : Str)) = false := by decide) :
    JE T X E (.Dict [some (.Name y p2)] [.Constant (.int n) jj p3] p1) (wDitOne j n) :=
  peI (pe_frz (Zd.pe_dispT (by have := B.room.un; omega) (pps_cons (pe_var hN hv hd hcd) pe_int pps_nil) rfl rfl (by simp) (Nat.le_of_ble_eq_true rfl))) fun σ H Q ⟨c, wd, env, P, Ex, r, h, _, kk⟩ => fun p hp => by
    obtain ⟨ns, e, h⟩ := h
    obtain ⟨v, e1, rv⟩ := r.dat j _ (gt_eq _ _ e)
    cases rv with
    | tup hb rb =>
      rename_i b vs
      rw [rb.ints] at hb
      have hb := r.good.sub _ _ hb
      have ne : b ≠ p := fun z => by rw [z, hp] at hb; cases hb
      refine ⟨.ref b, e1, upd_same, [(iK ns, .int n)], [b], rfl, .cons ?_ .nil, Nat.le_of_ble_eq_true rfl, p, _, rfl, upd_same, trivial, fun od => ?_⟩
      · show upd H p (.dT []) b = some (.tup ((iK ns).map kV))
        rw [upd_ne ne, iK_V]
        exact hb
      · rw [upd_upd, upd_upd]
        have g : Grow wd H (wd.add p (.frz od (.dT [(iK ns, V.int n)]))) (upd H p (.frz od (.dT [(iK ns, V.int n)]))) := Grow.one hp noTb_frz trivial
        exact kk _ env h (.ref p) _ _ (Le.add (r.good.mnone hp)) (r.grow g) (.dit upd_same rfl (.cons (.int n) .nil))
end
end Pd

namespace Pr
open PySem PySem.Spec PyProof.Rows L2 LamX Pd
open Ta (Tb lnD tbD wd lsum csum badN)
open Tq (Cn smD)
open Tr (Pk sat hvy Sml)
def Mn (c : Int) (l r : List Int) (v : Int) : Prop := (∃ k, k ≤ l.length ∧ v = Mf.cut c (dn l) r k) ∧ ∀ k, k ≤ l.length → v ≤ Mf.cut c (dn l) r k
abbrev F_is_integer := Ta.F_is_integer
abbrev F_is_from := Ta.F_is_from
abbrev F_L_urn := Ta.F_L_urn
abbrev F_L_ball := Ta.F_L_ball
abbrev F_L_pick := Ta.F_L_pick
abbrev F_L_grid := Ta.F_L_grid
abbrev F_is_cap := Ta.F_is_cap
abbrev F_is_count := Tq.F_is_count
abbrev F_are_counts := Tq.F_are_counts
abbrev F_room := Tq.F_room
abbrev F_is_sums := Tq.F_is_sums
abbrev F_require_table_sums := Tq.F_require_table_sums
abbrev F_heaviest := Tr.F_heaviest
abbrev F_L_near := Tr.F_L_near
abbrev F_L_line_sums := Tr.F_L_line_sums
abbrev F_L_column_sums := Tr.F_L_column_sums
abbrev F_L_room := Tr.F_L_room
def F_bound : Fn := fun ds Q _ => ∃ (c : Int) (l r is : List Int) (k : Nat), ds = [.int c, Ti l, Ti r, Ti is] ∧ 0 ≤ c ∧ c ≤ 9 ∧ l.length ≤ 64 ∧ Pk l.length k is ∧ Q (.int (l.sum - sat l is + Qg.rm c r k))
def F_tight_lines : Fn := fun ds Q _ => ∃ (c : Int) (l r : List Int), ds = [.int c, Ti l, Ti r] ∧ 0 ≤ c ∧ c ≤ 9 ∧ l.length ≤ 64 ∧ ∀ k, k ≤ l.length → (∀ j, j ≤ l.length → Mf.cut c (dn l) r k ≤ Mf.cut c (dn l) r j) → Q (Ti (hvy l k))
def F_most_units : Fn := fun ds Q _ => ∃ c l r, ds = [smD c l r] ∧ 1 ≤ c ∧ c ≤ 9 ∧ Cn 12 l ∧ Cn 12 r ∧ ∀ v, Mn c l r v → Q (.int v)
def F_fewest_taken : Fn := fun ds Q _ => ∃ c l r, ds = [smD c l r] ∧ 1 ≤ c ∧ c ≤ 9 ∧ Cn 12 l ∧ Cn 12 r ∧ ∀ v, Mn c l r v → Q (.int (l.sum + r.sum - 2 * v))
def F_L_sets : Fn := fun ds Q _ => ∃ n : Nat, ds = [.int (n : Int)] ∧ n ≤ 6 ∧ Q (.lst ((Mf.subs n).map Ti))
def F_L_by_sets : Fn := fun ds Q _ => ∃ (c : Int) (l r : List Int), ds = [.int c, Ti l, Ti r] ∧ 0 ≤ c ∧ c ≤ 9 ∧ l.length ≤ 6 ∧ (∀ x ∈ l, 0 ≤ x) ∧ (∀ x ∈ r, 0 ≤ x) ∧ ∀ v, Mn c l r v → Q (.int v)
def F_L_by_force : Fn := fun ds Q _ => ∃ (c : Int) (l r : List Int), ds = [.int c, Ti l, Ti r] ∧ 0 ≤ c ∧ c ≤ 2 ∧ l.length ≤ 3 ∧ 1 ≤ r.length ∧ r.length ≤ 3 ∧ (∀ x ∈ l, 0 ≤ x) ∧ (∀ x ∈ r, 0 ≤ x ∧ x ≤ 6) ∧ ∀ v, Mn c l r v → Q (.int v)
def F_L_right : Fn := fun ds Q _ => ∃ p, ds = [.box p] ∧ Q (.bl true)
def F_law : Fn := fun ds Q _ => ∃ ns, ds = [.scr ns] ∧ ns.length ≤ 63 ∧ Q (.bl true)
end Pr

namespace Pr
open PySem PySem.Spec PyProof.Rows L2 LamX Pd
def N_is_integer : List Str := ["value"]
def w_is_integer : WS := (sRet (wAnd (w1 (dIsi "int") (wVar 0)) (wNot (w1 (dIsi "bool") (wVar 0)))))
def N_is_from : List Str := ["value", "first", "last"]
def w_is_from : WS := (sRet (wAnd (wCall F_is_integer (wCons (wVar 0) wNil)) (wChain dLe dLe (wVar 1) (wVar 0) (wVar 2))))
def N_is_count : List Str := ["value"]
def w_is_count : WS := (sRet (wCall F_is_from (wCons (wVar 0) (wCons (W.ret (.int 0)) (wCons (W.ret (.int 999999999999999999999999999999)) wNil)))))
def N_are_counts : List Str := ["value", "most", "one"]
def w_are_counts : WS := (sSeq (sIf (tOrP (tNotP (wTest (w1 (dIsi "tuple") (wVar 0)))) (tNotP (wTest (wChain dLe dLe (W.ret (.int 1)) (w1 dLen (wVar 0)) (wVar 1))))) (sRet (W.ret (.bl false))) sNil) (sRet (x1 fAll (wLst (wComp (wItems (wVar 0)) (gNm 2) (W.ret true) (wCall F_is_count (wCons (wVar 2) wNil)) [2])))))
def N_is_cap : List Str := ["value"]
def w_is_cap : WS := (sRet (wCall F_is_from (wCons (wVar 0) (wCons (W.ret (.int 1)) (wCons (W.ret (.int 9)) wNil)))))
def N_is_sums : List Str := ["value", "cap", "lines", "columns", "degrees", "scores"]
def w_is_sums : WS := (sSeq (sIf (tOrP (tNotP (wTest (w1 (dIsi "tuple") (wVar 0)))) (tOrP (wTest (wBin dLt (w1 dLen (wVar 0)) (W.ret (.int 2)))) (tNotP (wTest (w1 (dIsi "str") (xBin fIdx (wVar 0) (W.ret (.int 0)))))))) (sRet (W.ret (.bl false))) sNil) (sSeq (sMatch (wVar 0) (mcSeq [.s "table", .v 1, .v 2, .v 3] (sRet (wAnd (wCall F_is_cap (wCons (wVar 1) wNil)) (wAnd (wCall F_are_counts (wCons (wVar 2) (wCons (W.ret (.int 12)) wNil))) (wCall F_are_counts (wCons (wVar 3) (wCons (W.ret (.int 12)) wNil)))))) (mcSeq [.s "web", .v 4] (sRet (wCall F_are_counts (wCons (wVar 4) (wCons (W.ret (.int 16)) wNil)))) (mcSeq [.s "tournament", .v 5] (sRet (wCall F_are_counts (wCons (wVar 5) (wCons (W.ret (.int 16)) wNil)))) mcNil)))) (sRet (W.ret (.bl false)))))
def N_require_table_sums : List Str := ["sums"]
def w_require_table_sums : WS := (sIf (tOrP (tNotP (wTest (wCall F_is_sums (wCons (wVar 0) wNil)))) (wTest (xBin fNe (xBin fIdx (wVar 0) (W.ret (.int 0))) (W.ret (.str "table"))))) (sRaise "InvalidSums") sNil)
def N_room : List Str := ["cap", "many", "columns", "column"]
def w_room : WS := (sRet (x1 fSum (wLst (wComp (wItems (wVar 2)) (gNm 3) (W.ret true) (wN dMin2 (wCons (xBin fMul (wVar 0) (wVar 1)) (wCons (wVar 3) wNil))) [3]))))
def N_bound : List Str := ["cap", "lines", "columns", "some", "others", "line", "entry"]
def w_bound : WS := (sSeq (sSet 4 (wLst (wComp (wEnum (wVar 1)) (gTupP (gsCons (gNm 5) (gsCons (gNm 6) gsNil)) 2) (wTest (xBin fNotIn (wVar 5) (wVar 3))) (wVar 6) [5, 6]))) (sRet (xBin fAdd (x1 fSum (wVar 4)) (wCall F_room (wCons (wVar 0) (wCons (w1 dLen (wVar 3)) (wCons (wVar 2) wNil)))))))
def N_heaviest : List Str := ["row", "size", "order"]
def w_heaviest : WS := (sSeq (sSet 2 (wLst (wSortKey [.neg 0, .self] (w1 dLen (wVar 0))))) (sRet (w1 dTuple (wLst (wSort false (wSl (wVar 2) (W.ret none) (wPart (wVar 1))))))))
def N_tight_lines : List Str := ["cap", "lines", "columns", "sets", "size"]
def w_tight_lines : WS := (sSeq (sSet 3 (wLst (wComp (wRng1 (xBin fAdd (w1 dLen (wVar 1)) (W.ret (.int 1)))) (gNm 4) (W.ret true) (wCall F_heaviest (wCons (wVar 1) (wCons (wVar 4) wNil))) [4]))) (sRet (wMinKeyE [0, 1, 2] (wCall F_bound (wCons (wVar 1) (wCons (wVar 2) (wCons (wVar 3) (wCons (wVar 0) wNil))))) (wVar 3))))
def N_most_units : List Str := ["sums", "word", "cap", "lines", "columns"]
def w_most_units : WS := (sSeq (sDrop (wCall F_require_table_sums (wCons (wVar 0) wNil))) (sSeq (sAsg (wVar 0) (gTupP (gsCons (gNm 1) (gsCons (gNm 2) (gsCons (gNm 3) (gsCons (gNm 4) gsNil)))) 4)) (sRet (wCall F_bound (wCons (wVar 2) (wCons (wVar 3) (wCons (wVar 4) (wCons (wCall F_tight_lines (wCons (wVar 2) (wCons (wVar 3) (wCons (wVar 4) wNil)))) wNil))))))))
def N_fewest_taken : List Str := ["sums"]
def w_fewest_taken : WS := (sSeq (sDrop (wCall F_require_table_sums (wCons (wVar 0) wNil))) (sRet (wBin dSub (xBin fAdd (x1 fSum (xBin fIdx (wVar 0) (W.ret (.int 2)))) (x1 fSum (xBin fIdx (wVar 0) (W.ret (.int 3))))) (xBin fMul (W.ret (.int 2)) (wCall F_most_units (wCons (wVar 0) wNil))))))
def N_L_ball : List Str := ["_law_urn_here", "_law_total", "_law_one", "_law_two", "_law_found"]
def w_L_ball : WS := (sSeq (sIf (wTest (wBin dGt (wBoxGet (wVar 0) (W.ret (.int 0))) (W.ret (.int 0)))) (sSeq (sSet 4 (xBin fMod (w1 dInt (wBoxGet (wVar 0) (W.ret (.int 0)))) (wVar 1))) (sSeq (sBoxSet 0 0 (xBin fDiv (wBoxGet (wVar 0) (W.ret (.int 0))) (wVar 1))) (sRet (wVar 4)))) sNil) (sSeq (sBoxSet 0 2 (xBin fAdd (wBoxGet (wVar 0) (W.ret (.int 2))) (W.ret (.int 1)))) (sSeq (sSet 2 (xBin fMod (w1 dInt (xBin fAdd (wBoxGet (wVar 0) (W.ret (.int 1))) (xBin fMul (W.ret (.int 1000357)) (wBoxGet (wVar 0) (W.ret (.int 2)))))) (W.ret (.int 2305843009213693951)))) (sSeq (sSet 3 (xBin fAdd (xBin fMul (xBin fMod (w1 dInt (xBin fMul (wVar 2) (wVar 2))) (W.ret (.int 2305843009213693921))) (wVar 2)) (xBin fMul (W.ret (.int 7877)) (wBoxGet (wVar 0) (W.ret (.int 2)))))) (sRet (xBin fMod (w1 dInt (xBin fDiv (xBin fMod (w1 dInt (wVar 3)) (W.ret (.int 2305843009213693907))) (W.ret (.int 32768)))) (wVar 1)))))))
def N_L_pick : List Str := ["_law_urn_here", "_law_items"]
def w_L_pick : WS := (sRet (xBin fIdx (wVar 1) (wCall F_L_ball (wCons (wVar 0) (wCons (w1 dLen (wVar 1)) wNil)))))
def N_L_grid : List Str := ["_law_urn_here", "_law_cap", "_law_lines", "_law_columns", "_law_menu", "_law_found", "_law_line", "_law_column"]
def w_L_grid : WS := (sSeq (sSet 4 (wCall F_L_pick (wCons (wVar 0) (wCons (wLst (wSz (wCons (wLst (wRgF (wRg1 (xBin fAdd (wVar 1) (W.ret (.int 1)))))) (wCons (wLst (wSz (wCons (W.ret (.int 0)) (wCons (wVar 1) wNil)))) (wCons (wLst (wSz (wCons (W.ret (.int 0)) (wCons (W.ret (.int 0)) (wCons (wVar 1) (wCons (wCall F_L_ball (wCons (wVar 0) (wCons (xBin fAdd (wVar 1) (W.ret (.int 1))) wNil))) wNil)))))) wNil))))) wNil)))) (sSeq (sSetOwn 5 (wSz wNil)) (sSeq (sFor (wRng1 (wVar 2)) (gNm 6) (sDrop (wAppend 5 (w1 dTuple (wLst (wComp (wRng1 (wVar 3)) (gNm 7) (W.ret true) (wCall F_L_pick (wCons (wVar 0) (wCons (wVar 4) wNil))) [7])))))) (sRet (w1 dTuple (wOwn 5))))))
def N_L_near : List Str := ["_law_urn_here", "_law_lines", "_law_columns", "_law_rows", "_law_turn", "_law_row", "_law_many", "_law_at", "_law_to", "*"]
def w_L_near : WS := (sSeq (sSet 3 (wLst (wSz (wCons (wCell 9 (w1F dItems (wVar 1))) (wCons (wCell 9 (w1F dItems (wVar 2))) wNil))))) (sSeq (sFor (wRng1 (wCall F_L_ball (wCons (wVar 0) (wCons (W.ret (.int 4)) wNil)))) (gNm 4) (sSeq (sSet 5 (wCall F_L_pick (wCons (wVar 0) (wCons (wVar 3) wNil)))) (sSeq (sParM2 7 8 (mE (wCall F_L_ball (wCons (wVar 0) (wCons (w1 dLen (wCelB 9 (wVar 5))) wNil))) (mE (wCall F_L_ball (wCons (wVar 0) (wCons (w1 dLen (wCelB 9 (wVar 5))) wNil))) mNil))) (sSeq (sSet 6 (wN dMin2 (wCons (wIxC 9 (wVar 5) (wVar 7)) (wCons (xBin fAdd (W.ret (.int 1)) (wCall F_L_ball (wCons (wVar 0) (wCons (W.ret (.int 2)) wNil)))) wNil)))) (sSeq (sSetC 9 (wVar 5) (wVar 7) (wBin dSub (wIxC 9 (wVar 5) (wVar 7)) (wVar 6))) (sIf (wTest (wBin dGt (wCall F_L_ball (wCons (wVar 0) (wCons (W.ret (.int 5)) wNil))) (W.ret (.int 0)))) (sSetC 9 (wVar 5) (wVar 8) (xBin fAdd (wIxC 9 (wVar 5) (wVar 8)) (wVar 6))) sNil)))))) (sRet (wTup (wCons (w1 dTuple (wCelB 9 (xBin fIdx (wVar 3) (W.ret (.int 0))))) (wCons (w1 dTuple (wCelB 9 (xBin fIdx (wVar 3) (W.ret (.int 1))))) wNil))))))
def N_L_sets : List Str := ["_law_many", "_law_found", "_law_one", "_law_some"]
def w_L_sets : WS := (sSeq (sSet 1 (wLst (wSz (wCons (wTup wNil) wNil)))) (sSeq (sFor (wRng1 (wVar 0)) (gNm 2) (sSet 1 (xBin fAdd (wVar 1) (wLst (wComp (wItems (wVar 1)) (gNm 3) (W.ret true) (xBin fAdd (wVar 3) (wTup (wCons (wVar 2) wNil))) [3]))))) (sRet (wVar 1))))
def N_L_room : List Str := ["_law_cap", "_law_many", "_law_sums", "_law_one"]
def w_L_room : WS := (sRet (x1 fSum (wLst (wComp (wItems (wVar 2)) (gNm 3) (W.ret true) (wN dMin2 (wCons (xBin fMul (wVar 0) (wVar 1)) (wCons (wVar 3) wNil))) [3]))))
def N_L_by_sets : List Str := ["_law_cap", "_law_lines", "_law_columns", "_law_found", "_law_some", "_law_rest", "_law_line", "_law_one"]
def w_L_by_sets : WS := (sSeq (sSetOwn 3 (wSz wNil)) (sSeq (sFor (wItems (wCall F_L_sets (wCons (w1 dLen (wVar 1)) wNil))) (gNm 4) (sSeq (sSet 5 (wLst (wComp (wEnum (wVar 1)) (gTupP (gsCons (gNm 6) (gsCons (gNm 7) gsNil)) 2) (wTest (xBin fNotIn (wVar 6) (wVar 4))) (wVar 7) [6, 7]))) (sDrop (wAppend 3 (xBin fAdd (x1 fSum (wVar 5)) (wCall F_L_room (wCons (wVar 0) (wCons (w1 dLen (wVar 4)) (wCons (wVar 2) wNil))))))))) (sRet (x1 fMinL (wOwn 3)))))
def N_L_line_sums : List Str := ["_law_lines", "_law_line"]
def w_L_line_sums : WS := (sRet (w1 dTuple (wLst (wComp (wItems (wVar 0)) (gNm 1) (W.ret true) (x1 fSum (wVar 1)) [1]))))
def N_L_column_sums : List Str := ["_law_lines", "_law_column", "_law_line"]
def w_L_column_sums : WS := (sRet (w1 dTuple (wLst (wComp (wRng1 (w1 dLen (xBin fIdx (wVar 0) (W.ret (.int 0))))) (gNm 1) (W.ret true) (x1 fSum (wLst (wComp (wItems (wVar 0)) (gNm 2) (W.ret true) (xBin fIdx (wVar 2) (wVar 1)) [2]))) [1]))))
def N_L_by_force : List Str := ["_law_cap", "_law_lines", "_law_columns", "_law_rows", "_law_column", "_law_known", "_law_most", "_law_later", "_law_row", "_law_left", "_law_rest", "_law_one", "_law_cell"]
def w_L_by_force : WS := (sSeq (sSet 3 (wLst (wSz (wCons (wTup wNil) wNil)))) (sSeq (sFor (wItems (wVar 2)) (gNm 4) (sSeq (sSetOwn 7 (wSz wNil)) (sSeq (sFor (wItems (wVar 3)) (gNm 8) (sDrop (wExtend 7 (wLst (wComp (wRng1 (xBin fAdd (wN dMin2 (wCons (wVar 0) (wCons (wVar 4) wNil))) (W.ret (.int 1)))) (gNm 11) (W.ret true) (xBin fAdd (wVar 8) (wTup (wCons (wVar 11) wNil))) [11]))))) (sSet 3 (wFrz 7))))) (sSeq (sSet 5 (wDitOne 2 (0))) (sSeq (sFor (wItems (wVar 1)) (gNm 6) (sSeq (sNewDct 7) (sSeq (sFor (wItemsDit (wVar 5)) (gNm 9) (sFor (wItems (wLst (wComp (wItems (wVar 3)) (gNm 8) (wTest (wBin dLe (x1 fSum (wVar 8)) (wVar 6))) (wVar 8) [8]))) (gNm 8) (sSeq (sSet 10 (w1 dTuple (wLst (wComp (wZip (wVar 9) (wVar 8)) (gTupP (gsCons (gNm 11) (gsCons (gNm 12) gsNil)) 2) (W.ret true) (wBin dSub (wVar 11) (wVar 12)) [11, 12])))) (sIf (wTest (wBin dGe (x1 fMinL (wVar 10)) (W.ret (.int 0)))) (sDcuPut 7 (wVar 10) (wN dMax2 (wCons (wDcuGetD 7 (wVar 10) (W.ret (.int 0))) (wCons (xBin fAdd (wDitGet (wVar 5) (wVar 9)) (x1 fSum (wVar 8))) wNil)))) sNil)))) (sSet 5 (wFrzT 7))))) (sRet (x1 fMaxL (wLst (wComp (wItemsDit (wVar 5)) (gNm 9) (W.ret true) (wDitGet (wVar 5) (wVar 9)) [9]))))))))
def N_L_right : List Str := ["_law_urn_here", "_law_cap", "_law_grid_here", "_law_due", "_law_lines", "_law_columns", "_law_line"]
def w_L_right : WS := (sSeq (sSet 1 (wCall F_L_pick (wCons (wVar 0) (wCons (wLst (wSz (wCons (W.ret (.int 1)) (wCons (W.ret (.int 1)) (wCons (W.ret (.int 2)) (wCons (W.ret (.int 3)) (wCons (W.ret (.int 9)) wNil))))))) wNil)))) (sSeq (sSet 2 (wCall F_L_grid (wCons (wVar 0) (wCons (wVar 1) (wCons (xBin fAdd (W.ret (.int 1)) (wCall F_L_ball (wCons (wVar 0) (wCons (W.ret (.int 6)) wNil)))) (wCons (xBin fAdd (W.ret (.int 1)) (wCall F_L_ball (wCons (wVar 0) (wCons (W.ret (.int 6)) wNil)))) wNil)))))) (sSeq (sAsg (wCall F_L_near (wCons (wVar 0) (wCons (wCall F_L_line_sums (wCons (wVar 2) wNil)) (wCons (wCall F_L_column_sums (wCons (wVar 2) wNil)) wNil)))) (gTupP (gsCons (gNm 4) (gsCons (gNm 5) gsNil)) 2)) (sSeq (sIf (wTest (xBin fEq (wCall F_L_ball (wCons (wVar 0) (wCons (W.ret (.int 3)) wNil))) (W.ret (.int 0)))) (sSet 4 (w1 dTuple (wLst (wComp (wItems (wVar 4)) (gNm 6) (W.ret true) (wCall F_L_ball (wCons (wVar 0) (wCons (xBin fAdd (xBin fMul (xBin fMul (W.ret (.int 2)) (wVar 1)) (w1 dLen (wVar 5))) (W.ret (.int 2))) wNil))) [6])))) sNil) (sSeq (sSet 3 (wCall F_L_by_sets (wCons (wVar 1) (wCons (wVar 4) (wCons (wVar 5) wNil))))) (sSeq (sIf (wTest (xBin fNe (wCall F_most_units (wCons (wTup (wCons (W.ret (.str "table")) (wCons (wVar 1) (wCons (wVar 4) (wCons (wVar 5) wNil))))) wNil)) (wVar 3))) (sRet (W.ret (.bl false))) sNil) (sSeq (sIf (tAndP (wTest (wBin dLt (w1 dLen (wVar 5)) (W.ret (.int 4)))) (tAndP (wTest (wBin dLt (w1 dLen (wVar 4)) (W.ret (.int 4)))) (tAndP (wTest (wBin dLt (wVar 1) (W.ret (.int 3)))) (wTest (wBin dLt (x1 fMaxL (wVar 5)) (W.ret (.int 7))))))) (sIf (wTest (xBin fNe (wCall F_L_by_force (wCons (wVar 1) (wCons (wVar 4) (wCons (wVar 5) wNil)))) (wVar 3))) (sRet (W.ret (.bl false))) sNil) sNil) (sRet (xBin fEq (wCall F_fewest_taken (wCons (wTup (wCons (W.ret (.str "table")) (wCons (wVar 1) (wCons (wVar 4) (wCons (wVar 5) wNil))))) wNil)) (wBin dSub (xBin fAdd (x1 fSum (wVar 4)) (x1 fSum (wVar 5))) (xBin fMul (W.ret (.int 2)) (wVar 3))))))))))))
def N_L_urn : List Str := ["_law_script", "_law_at", "_law_cell", "_law_great", "_law_mixed"]
def w_L_urn : WS := (sSeq (sSet 2 (wIf (wTest (wBin dLt (wVar 1) (w1 dLen (wVar 0)))) (xBin fIdx (wVar 0) (wVar 1)) (xBin fAdd (xBin fMul (W.ret (.int 79)) (wVar 1)) (W.ret (.int 53))))) (sSeq (sSet 3 (xBin fMod (w1 dInt (wN dAbs (wCons (wVar 2) wNil))) (xBin fPow (xBin fPow (W.ret (.int 10)) (W.ret (.int 58))) (W.ret (.int 9))))) (sSeq (sSet 4 (xBin fAdd (xBin fAdd (xBin fAdd (xBin fMul (xBin fMod (w1 dInt (wVar 3)) (W.ret (.int 2305843009213693921))) (W.ret (.int 50147))) (xBin fMul (W.ret (.int 8929)) (wVar 1))) (xBin fMul (W.ret (.int 73)) (w1 dInt (wBin dLt (wVar 2) (W.ret (.int 0)))))) (W.ret (.int 47)))) (sRet (wBox (wSz (wCons (wN dMax2 (wCons (W.ret (.int 0)) (wCons (wBin dSub (wVar 3) (xBin fPow (W.ret (.int 10)) (W.ret (.int 18)))) wNil))) (wCons (xBin fMod (w1 dInt (wVar 4)) (W.ret (.int 2305843009213693907))) (wCons (W.ret (.int 0)) wNil)))))))))
def N_law : List Str := ["_law_script", "_law_at", "_law_told"]
def w_law : WS := (sSeq (sFor (wRng1 (wN dMax2 (wCons (W.ret (.int 1)) (wCons (wN dMin2 (wCons (W.ret (.int 8)) (wCons (w1 dLen (wVar 0)) wNil))) wNil)))) (gNm 1) (sIf (tNotP (wTest (wCall F_L_right (wCons (wCall F_L_urn (wCons (wVar 0) (wCons (wVar 1) wNil))) wNil)))) (sRet (W.ret (.bl false))) sNil)) (sSeq (sSet 2 (wLst (wSz (wCons (wCall F_most_units (wCons (wTup (wCons (W.ret (.str "table")) (wCons (W.ret (.int 1)) (wCons (wTup (wCons (W.ret (.int 3)) (wCons (W.ret (.int 1)) wNil))) (wCons (wTup (wCons (W.ret (.int 2)) (wCons (W.ret (.int 2)) wNil))) wNil))))) wNil)) (wCons (wCall F_fewest_taken (wCons (wTup (wCons (W.ret (.str "table")) (wCons (W.ret (.int 1)) (wCons (wTup (wCons (W.ret (.int 3)) (wCons (W.ret (.int 1)) wNil))) (wCons (wTup (wCons (W.ret (.int 2)) (wCons (W.ret (.int 2)) wNil))) wNil))))) wNil)) wNil))))) (sSeq (sSet 2 (xBin fAdd (wVar 2) (wLst (wSz (wCons (wCall F_most_units (wCons (wTup (wCons (W.ret (.str "table")) (wCons (W.ret (.int 2)) (wCons (wTup (wCons (W.ret (.int 3)) (wCons (W.ret (.int 1)) wNil))) (wCons (wTup (wCons (W.ret (.int 2)) (wCons (W.ret (.int 2)) wNil))) wNil))))) wNil)) (wCons (wCall F_fewest_taken (wCons (wTup (wCons (W.ret (.str "table")) (wCons (W.ret (.int 1)) (wCons (wTup (wCons (W.ret (.int 100)) wNil)) (wCons (wTup (wCons (W.ret (.int 5)) (wCons (W.ret (.int 0)) wNil))) wNil))))) wNil)) wNil)))))) (sRet (xBin fEq (wVar 2) (wLst (wSz (wCons (W.ret (.int 3)) (wCons (W.ret (.int 2)) (wCons (W.ret (.int 4)) (wCons (W.ret (.int 103)) wNil)))))))))))
end Pr

namespace Pr
open PySem PySem.Spec PyProof.Rows L2 LamX Pd
theorem pure_is_integer (ds : List D) (Q : D → Prop) (Ex : Xc → Prop) (h : F_is_integer ds Q Ex) : w_is_integer (dEnds Q Ex) (startE N_is_integer ds) := Ta.pure_is_integer ds Q Ex h
theorem len_is_integer (ds : List D) (Q : D → Prop) (Ex : Xc → Prop) (h : F_is_integer ds Q Ex) : ds.length = 1 := Ta.len_is_integer ds Q Ex h
theorem pure_is_from (ds : List D) (Q : D → Prop) (Ex : Xc → Prop) (h : F_is_from ds Q Ex) : w_is_from (dEnds Q Ex) (startE N_is_from ds) := Ta.pure_is_from ds Q Ex h
theorem len_is_from (ds : List D) (Q : D → Prop) (Ex : Xc → Prop) (h : F_is_from ds Q Ex) : ds.length = 3 := Ta.len_is_from ds Q Ex h
theorem pure_L_urn (ds : List D) (Q : D → Prop) (Ex : Xc → Prop) (h : F_L_urn ds Q Ex) : w_L_urn (dEnds Q Ex) (startE N_L_urn ds) := Ta.pure_L_urn ds Q Ex h
theorem len_L_urn (ds : List D) (Q : D → Prop) (Ex : Xc → Prop) (h : F_L_urn ds Q Ex) : ds.length = 2 := Ta.len_L_urn ds Q Ex h
theorem pure_L_ball (ds : List D) (Q : D → Prop) (Ex : Xc → Prop) (h : F_L_ball ds Q Ex) : w_L_ball (dEnds Q Ex) (startE N_L_ball ds) := Ta.pure_L_ball ds Q Ex h
theorem len_L_ball (ds : List D) (Q : D → Prop) (Ex : Xc → Prop) (h : F_L_ball ds Q Ex) : ds.length = 2 := Ta.len_L_ball ds Q Ex h
theorem pure_L_pick (ds : List D) (Q : D → Prop) (Ex : Xc → Prop) (h : F_L_pick ds Q Ex) : w_L_pick (dEnds Q Ex) (startE N_L_pick ds) := Ta.pure_L_pick ds Q Ex h
theorem len_L_pick (ds : List D) (Q : D → Prop) (Ex : Xc → Prop) (h : F_L_pick ds Q Ex) : ds.length = 2 := Ta.len_L_pick ds Q Ex h
theorem pure_L_grid (ds : List D) (Q : D → Prop) (Ex : Xc → Prop) (h : F_L_grid ds Q Ex) : w_L_grid (dEnds Q Ex) (startE N_L_grid ds) := Ta.pure_L_grid ds Q Ex h
theorem len_L_grid (ds : List D) (Q : D → Prop) (Ex : Xc → Prop) (h : F_L_grid ds Q Ex) : ds.length = 4 := Ta.len_L_grid ds Q Ex h
theorem pure_is_cap (ds : List D) (Q : D → Prop) (Ex : Xc → Prop) (h : F_is_cap ds Q Ex) : w_is_cap (dEnds Q Ex) (startE N_is_cap ds) := Ta.pure_is_cap ds Q Ex h
theorem len_is_cap (ds : List D) (Q : D → Prop) (Ex : Xc → Prop) (h : F_is_cap ds Q Ex) : ds.length = 1 := Ta.len_is_cap ds Q Ex h
theorem pure_is_count (ds : List D) (Q : D → Prop) (Ex : Xc → Prop) (h : F_is_count ds Q Ex) : w_is_count (dEnds Q Ex) (startE N_is_count ds) := Tq.pure_is_count ds Q Ex h
theorem len_is_count (ds : List D) (Q : D → Prop) (Ex : Xc → Prop) (h : F_is_count ds Q Ex) : ds.length = 1 := Tq.len_is_count ds Q Ex h
theorem pure_are_counts (ds : List D) (Q : D → Prop) (Ex : Xc → Prop) (h : F_are_counts ds Q Ex) : w_are_counts (dEnds Q Ex) (startE N_are_counts ds) := Tq.pure_are_counts ds Q Ex h
theorem len_are_counts (ds : List D) (Q : D → Prop) (Ex : Xc → Prop) (h : F_are_counts ds Q Ex) : ds.length = 2 := Tq.len_are_counts ds Q Ex h
theorem pure_room (ds : List D) (Q : D → Prop) (Ex : Xc → Prop) (h : F_room ds Q Ex) : w_room (dEnds Q Ex) (startE N_room ds) := Tq.pure_room ds Q Ex h
theorem len_room (ds : List D) (Q : D → Prop) (Ex : Xc → Prop) (h : F_room ds Q Ex) : ds.length = 3 := Tq.len_room ds Q Ex h
theorem pure_is_sums (ds : List D) (Q : D → Prop) (Ex : Xc → Prop) (h : F_is_sums ds Q Ex) : w_is_sums (dEnds Q Ex) (startE N_is_sums ds) := Tq.pure_is_sums ds Q Ex h
theorem len_is_sums (ds : List D) (Q : D → Prop) (Ex : Xc → Prop) (h : F_is_sums ds Q Ex) : ds.length = 1 := Tq.len_is_sums ds Q Ex h
theorem pure_require_table_sums (ds : List D) (Q : D → Prop) (Ex : Xc → Prop) (h : F_require_table_sums ds Q Ex) : w_require_table_sums (dEnds Q Ex) (startE N_require_table_sums ds) := Tq.pure_require_table_sums ds Q Ex h
theorem len_require_table_sums (ds : List D) (Q : D → Prop) (Ex : Xc → Prop) (h : F_require_table_sums ds Q Ex) : ds.length = 1 := Tq.len_require_table_sums ds Q Ex h
theorem pure_heaviest (ds : List D) (Q : D → Prop) (Ex : Xc → Prop) (h : F_heaviest ds Q Ex) : w_heaviest (dEnds Q Ex) (startE N_heaviest ds) := Tr.pure_heaviest ds Q Ex h
theorem len_heaviest (ds : List D) (Q : D → Prop) (Ex : Xc → Prop) (h : F_heaviest ds Q Ex) : ds.length = 2 := Tr.len_heaviest ds Q Ex h
theorem pure_L_near (ds : List D) (Q : D → Prop) (Ex : Xc → Prop) (h : F_L_near ds Q Ex) : w_L_near (dEnds Q Ex) (startE N_L_near ds) := Tr.pure_L_near ds Q Ex h
theorem len_L_near (ds : List D) (Q : D → Prop) (Ex : Xc → Prop) (h : F_L_near ds Q Ex) : ds.length = 3 := Tr.len_L_near ds Q Ex h
theorem pure_L_line_sums (ds : List D) (Q : D → Prop) (Ex : Xc → Prop) (h : F_L_line_sums ds Q Ex) : w_L_line_sums (dEnds Q Ex) (startE N_L_line_sums ds) := Tr.pure_L_line_sums ds Q Ex h
theorem len_L_line_sums (ds : List D) (Q : D → Prop) (Ex : Xc → Prop) (h : F_L_line_sums ds Q Ex) : ds.length = 1 := Tr.len_L_line_sums ds Q Ex h
theorem pure_L_column_sums (ds : List D) (Q : D → Prop) (Ex : Xc → Prop) (h : F_L_column_sums ds Q Ex) : w_L_column_sums (dEnds Q Ex) (startE N_L_column_sums ds) := Tr.pure_L_column_sums ds Q Ex h
theorem len_L_column_sums (ds : List D) (Q : D → Prop) (Ex : Xc → Prop) (h : F_L_column_sums ds Q Ex) : ds.length = 1 := Tr.len_L_column_sums ds Q Ex h
theorem pure_L_room (ds : List D) (Q : D → Prop) (Ex : Xc → Prop) (h : F_L_room ds Q Ex) : w_L_room (dEnds Q Ex) (startE N_L_room ds) := Tr.pure_L_room ds Q Ex h
theorem len_L_room (ds : List D) (Q : D → Prop) (Ex : Xc → Prop) (h : F_L_room ds Q Ex) : ds.length = 3 := Tr.len_L_room ds Q Ex h
end Pr

namespace Pr
open PySem PySem.Spec PyProof.Rows L2 LamX Pd
open Ta (Tb lnD tbD wd lsum csum badN)
open Tq (Cn smD pl_Ti upTo0)
open Tr (Pk sat hvy Sml rest)
theorem enD_ints : ∀ (l : List Int) (n : Nat), Pd.enD n (l.map D.int) = (List.range l.length).map fun i => D.tup [.int ((n + i : Nat) : Int), .int (l.getD i 0)]
  | [], _ => rfl
  | x :: l, n => by
    rw [List.map_cons, Pd.enD, enD_ints l (n + 1), List.length_cons, List.range_succ_eq_map, List.map_cons, List.map_map]
    congr 1
    refine List.map_congr_left fun i _ => ?_
    show D.tup [.int ((n + 1 + i : Nat) : Int), .int (l.getD i 0)] = D.tup [.int ((n + (i + 1) : Nat) : Int), .int ((x :: l).getD (i + 1) 0)]
    rw [show n + 1 + i = n + (i + 1) by omega]
    rfl
def oth (l is : List Int) : List Int := ((List.range l.length).filter fun i : Nat => !is.any fun y => decide (y = (i : Int))).map fun i => l.getD i 0
theorem oth_sum {l is : List Int} {k : Nat} (pk : Pk l.length k is) : (oth l is).sum = l.sum - sat l is := by
  have := Tr.sat_rest (l := l) pk
  have e : (oth l is).sum = sat l (rest l.length is) := by
    unfold oth sat Tr.rest
    rw [List.map_map]
    rfl
  omega
theorem oth_comp {l is : List Int} {v u : Nat} {Q : List D → PEnv → Prop} {t : W Bool} {e : W D} (E : Option Sl → Option Sl → PEnv) (s0 s1 : Option Sl) (hE : ∀ s z x y, ((wipeE (E s z) [v, u]).set v (some (.d x))).set u (some (.d y)) = E (some (.d x)) (some (.d y)))
    (ht : ∀ (i : Nat) (y : D) (K : Bool → PEnv → Prop) (ex : Xc → Prop), (plain 59 (.int (i : Int)) && (is.map D.int).all (plain 59)) = true → K (!(is.map D.int).any fun y => eqb y (.int (i : Int))) (E (some (.d (.int (i : Int)))) (some (.d y))) → t (E (some (.d (.int (i : Int)))) (some (.d y))) K ex) (he : ∀ (x y : D) (K : D → PEnv → Prop) (ex : Xc → Prop), K y (E (some (.d x)) (some (.d y))) → e (E (some (.d x)) (some (.d y))) K ex)
    (q : ∀ a b, Q ((oth l is).map D.int) (E a b)) : compW (gTupP (gsCons (gNm v) (gsCons (gNm u) gsNil)) 2) t e [v, u] Q (Pd.enD 0 (l.map D.int)) (E s0 s1) [] := by
  rw [enD_ints]
  refine comp_pair E (fun i : Nat => D.int ((0 + i : Nat) : Int)) (fun i => D.int (l.getD i 0)) (fun i => D.int (l.getD i 0)) (fun i => !is.any fun y => decide (y = (i : Int))) (List.range l.length) s0 s1 [] hE (fun i _ K ex k => ?_) (fun i _ _ K ex k => he _ _ K ex k) fun a b => ?_
  · rw [Nat.zero_add] at k ⊢
    refine ht i _ K ex ?_ ?_
    · rw [List.all_map]
      exact List.all_eq_true.mpr fun _ _ => rfl
    have ea : (is.map D.int).any (fun y => eqb y (.int (i : Int))) = is.any fun y => decide (y = (i : Int)) := by
      rw [List.any_map]
      rfl
    rw [ea]
    exact k
  · have := q a b
    rw [List.nil_append]
    unfold oth at this
    rw [List.map_map] at this
    exact this
theorem pure_bound (ds : List D) (Q : D → Prop) (Ex : Xc → Prop) (h : F_bound ds Q Ex) : w_bound (dEnds Q Ex) (startE N_bound ds) := by
  obtain ⟨c, l, r, is, k, rfl, c0, c9, l64, pk, q⟩ := h
  show compW _ _ _ _ _ (Pd.enD 0 (l.map D.int)) _ _
  refine oth_comp (is := is) (v := 5) (u := 6) (fun a b => [some (.d (.int c)), some (.d (Ti l)), some (.d (Ti r)), some (.d (Ti is)), none, a, b]) none none (fun _ _ _ _ => rfl) (fun i y K ex p k => ⟨p, k⟩) (fun x y K ex k => k) fun a b => ?_
  refine ⟨oth l is, rfl, c, k, r, ?_, c0, c9, ?_⟩
  · show [D.int c, D.int ((is.map D.int).length : Int), Ti r] = _
    rw [List.length_map, pk.ln]
  · rw [oth_sum pk]
    exact q
theorem len_bound (ds : List D) (Q : D → Prop) (Ex : Xc → Prop) (h : F_bound ds Q Ex) : ds.length = 4 := by
  obtain ⟨c, l, r, is, k, rfl, _⟩ := h
  rfl
theorem sum_dn (l : List Int) (k : Nat) : l.sum - sat l (hvy l k) = ((dn l).drop k).sum := by
  have h1 := Qg.perm_sum (dn_perm l)
  have h2 : ((dn l).take k).sum + ((dn l).drop k).sum = (dn l).sum := by rw [← List.sum_append, List.take_append_drop]
  have h3 := Tr.hvy_sat (b := l) (k := k)
  omega
theorem pure_tight_lines (ds : List D) (Q : D → Prop) (Ex : Xc → Prop) (h : F_tight_lines ds Q Ex) : w_tight_lines (dEnds Q Ex) (startE N_tight_lines ds) := by
  obtain ⟨c, l, r, rfl, c0, c9, l64, q⟩ := h
  have el : ((l.map D.int).length : Int) = (l.length : Int) := by rw [List.length_map]
  refine ⟨show ((l.map D.int).length : Int) + 1 ≤ 1000000 by omega, show -1000000 ≤ ((l.map D.int).length : Int) + 1 by omega, ?_⟩
  show compW _ _ _ _ _ (Pd.upTo 0 (((l.map D.int).length : Int) + 1)) _ _
  rw [el, upTo0, show ((l.length : Int) + 1).toNat = l.length + 1 by omega]
  refine comp_all (fun s => [some (.d (.int c)), some (.d (Ti l)), some (.d (Ti r)), none, s]) (fun (k : Nat) => D.int (k : Int)) (fun k => Ti (hvy l k)) (List.range (l.length + 1)) none [] (fun _ _ => rfl) (fun k hk K ex kk => ⟨l, k, rfl, by have := List.mem_range.mp hk; omega, l64, kk⟩) fun s => ?_
  rw [List.nil_append]
  refine ⟨(List.range (l.length + 1)).map fun k => Ti (hvy l k), fun i => Mf.cut c (dn l) r i, rfl, by simp, fun x hx => ?_, fun i x e => ?_, fun i x e mn => ?_⟩
  · obtain ⟨k, _, rfl⟩ := List.mem_map.mp hx
    exact ⟨_, rfl⟩
  · rw [List.getElem?_map] at e
    have hi : i < l.length + 1 := by
      rw [← List.length_range (n := l.length + 1)]
      exact (List.getElem?_eq_some_iff.mp (by simpa using Option.map_eq_some_iff.mp e |>.choose_spec.1)).1
    rw [List.getElem?_range hi] at e
    cases e
    refine ⟨c, l, r, hvy l i, i, rfl, c0, c9, l64, Tr.hvy_pk (by omega), ?_⟩
    show D.int _ = D.int _
    rw [sum_dn]
    rfl
  · have hi : i < ((List.range (l.length + 1)).map fun k => Ti (hvy l k)).length := (List.getElem?_eq_some_iff.mp e).1
    rw [List.length_map, List.length_range] at hi
    rw [List.getElem?_map, List.getElem?_range hi] at e
    cases e
    refine q i (by omega) fun j hj => mn j ?_
    rw [List.length_map, List.length_range]
    omega
theorem len_tight_lines (ds : List D) (Q : D → Prop) (Ex : Xc → Prop) (h : F_tight_lines ds Q Ex) : ds.length = 3 := by
  obtain ⟨c, l, r, rfl, _⟩ := h
  rfl
theorem pure_most_units (ds : List D) (Q : D → Prop) (Ex : Xc → Prop) (h : F_most_units ds Q Ex) : w_most_units (dEnds Q Ex) (startE N_most_units ds) := by
  obtain ⟨c, l, r, rfl, c1, c9, kl, kr, q⟩ := h
  have l12 := kl.lm
  refine ⟨c, l, r, rfl, c1, c9, kl, kr, ?_⟩
  refine ⟨rfl, ?_⟩
  dsimp only [gsCons, gNm, gsNil]
  refine ⟨c, l, r, rfl, by omega, c9, by omega, fun k hk mn => ?_⟩
  refine ⟨c, l, r, _, k, rfl, by omega, c9, by omega, Tr.hvy_pk hk, ?_⟩
  rw [sum_dn]
  exact q _ ⟨⟨k, hk, rfl⟩, mn⟩
theorem len_most_units (ds : List D) (Q : D → Prop) (Ex : Xc → Prop) (h : F_most_units ds Q Ex) : ds.length = 1 := by
  obtain ⟨c, l, r, rfl, _⟩ := h
  rfl
theorem Mn.uniq {c : Int} {l r : List Int} {v w : Int} (a : Mn c l r v) (b : Mn c l r w) : v = w := by
  obtain ⟨⟨i, hi, ei⟩, ai⟩ := a
  obtain ⟨⟨j, hj, ej⟩, bj⟩ := b
  have := ai j hj
  have := bj i hi
  omega
theorem pure_fewest_taken (ds : List D) (Q : D → Prop) (Ex : Xc → Prop) (h : F_fewest_taken ds Q Ex) : w_fewest_taken (dEnds Q Ex) (startE N_fewest_taken ds) := by
  obtain ⟨c, l, r, rfl, c1, c9, kl, kr, q⟩ := h
  refine ⟨c, l, r, rfl, c1, c9, kl, kr, ?_⟩
  refine ⟨_, Ta.idx_items rfl (by decide) rfl, l, rfl, ?_⟩
  refine ⟨_, Ta.idx_items rfl (by decide) rfl, r, rfl, ?_⟩
  refine ⟨c, l, r, rfl, c1, c9, kl, kr, fun v mv => ?_⟩
  exact ⟨.inl (.inl (by decide)), q v mv⟩
theorem len_fewest_taken (ds : List D) (Q : D → Prop) (Ex : Xc → Prop) (h : F_fewest_taken ds Q Ex) : ds.length = 1 := by
  obtain ⟨c, l, r, rfl, _⟩ := h
  rfl
end Pr

namespace Pr
open PySem PySem.Spec PyProof.Rows L2 LamX Pd
open Ta (Tb lnD tbD wd lsum csum badN)
open Tq (Cn smD pl_Ti upTo0)
open Tr (Pk sat hvy Sml rest)
open Mf (subs)
theorem upTo_cons {i m : Int} (h : i < m) : Pd.upTo i m = .int i :: Pd.upTo (i + 1) m := by
  unfold Pd.upTo
  have e : (m - i).toNat = (m - (i + 1)).toNat + 1 := by omega
  rw [e, List.range_succ_eq_map, List.map_cons, List.map_map]
  congr 1
  · simp
  · refine List.map_congr_left fun x _ => ?_
    show D.int (i + ((x + 1 : Nat) : Int)) = D.int (i + 1 + (x : Int))
    congr 1
    omega
theorem upTo_nil {i m : Int} (h : m ≤ i) : Pd.upTo i m = [] := by
  unfold Pd.upTo
  rw [show (m - i).toNat = 0 by omega]
  rfl
theorem sub_pk {n : Nat} {s : List Int} (h : s ∈ subs n) : Pk n s.length s := by
  obtain ⟨a, b⟩ := Mf.subs_ok n s h
  exact ⟨rfl, a, b⟩
theorem sub_len {n : Nat} {s : List Int} (h : s ∈ subs n) : s.length ≤ n := by
  have := (Tr.rest_pk (sub_pk h)).2
  exact this
theorem pure_L_sets (ds : List D) (Q : D → Prop) (Ex : Xc → Prop) (h : F_L_sets ds Q Ex) : w_L_sets (dEnds Q Ex) (startE N_L_sets ds) := by
  obtain ⟨n, rfl, hn, q⟩ := h
  refine ⟨Nat.le_of_ble_eq_true rfl, Nat.le_of_ble_eq_true rfl, ?_⟩
  refine ⟨by omega, by omega, ?_⟩
  refine forW_ind (fun rest env => ∃ (i : Nat) (j2 : Option Sl), i ≤ n ∧ rest = Pd.upTo (i : Int) (n : Int) ∧ env = [some (.d (.int (n : Int))), some (.d (.lst ((subs i).map Ti))), j2, none]) ?_ ?_ _ _ ⟨0, none, by omega, rfl, rfl⟩
  · rintro x rest env ⟨i, j2, hi, er, rfl⟩ ih
    have hlt : (i : Int) < n := by
      apply Decidable.byContradiction
      intro z
      rw [upTo_nil (by omega)] at er
      cases er
    rw [upTo_cons hlt] at er
    cases er
    have l64 : 2 ^ i ≤ 64 := Nat.le_trans (Nat.pow_le_pow_right (by decide) (show i ≤ 6 by omega)) (by decide)
    refine comp_all (fun z => [some (.d (.int (n : Int))), some (.d (.lst ((subs i).map Ti))), some (.d (.int (i : Int))), z]) Ti (fun s => Ti (s ++ [(i : Int)])) (subs i) _ [] (fun _ _ => rfl) (fun s hs K ex k => ?_) fun z => ?_
    · have e : Ti (s ++ [(i : Int)]) = .tup (s.map D.int ++ [D.int (i : Int)]) := by
        show D.tup (List.map _ _) = _
        rw [List.map_append]
        rfl
      rw [e] at k
      have := sub_len hs
      refine ⟨Nat.le_of_ble_eq_true rfl, ?_, k⟩
      rw [List.length_map]
      show s.length + 1 ≤ _
      omega
    · rw [List.nil_append]
      refine ⟨by rw [List.length_map, List.length_map, Mf.subs_len]; omega, ih _ ⟨i + 1, some (.d (.int (i : Int))), by omega, rfl, ?_⟩⟩
      have e : (subs (i + 1)).map Ti = (subs i).map Ti ++ (subs i).map fun s => Ti (s ++ [(i : Int)]) := by
        show (subs i ++ (subs i).map fun s => s ++ [(i : Int)]).map Ti = _
        rw [List.map_append, List.map_map]
        rfl
      rw [e]
      rfl
  · rintro env ⟨i, j2, hi, er, rfl⟩
    have e : i = n := by
      apply Decidable.byContradiction
      intro z
      rw [upTo_cons (by omega)] at er
      cases er
    subst e
    exact q
theorem len_L_sets (ds : List D) (Q : D → Prop) (Ex : Xc → Prop) (h : F_L_sets ds Q Ex) : ds.length = 1 := by
  obtain ⟨n, rfl, _⟩ := h
  rfl
def lets (c : Int) (l r s : List Int) : Int := l.sum - sat l s + Qg.rm c r s.length
theorem foldl_min : ∀ (ns : List Int) (n : Int), (∀ x ∈ n :: ns, ns.foldl min n ≤ x) ∧ ns.foldl min n ∈ n :: ns
  | [], n => ⟨fun x hx => by rw [List.mem_singleton.mp hx]; exact Int.le_refl _, List.mem_cons_self⟩
  | m :: ns, n => by
    obtain ⟨a, b⟩ := foldl_min ns (min n m)
    have h0 := a _ List.mem_cons_self
    refine ⟨fun x hx => ?_, ?_⟩
    · show ns.foldl min (min n m) ≤ x
      rcases List.mem_cons.mp hx with rfl | hx
      · omega
      · rcases List.mem_cons.mp hx with rfl | hx
        · omega
        · exact a x (List.mem_cons_of_mem _ hx)
    · show ns.foldl min (min n m) ∈ _
      rcases List.mem_cons.mp b with e | b
      · rw [e]
        rcases Int.le_total n m with z | z
        · rw [Int.min_eq_left z]
          exact List.mem_cons_self
        · rw [Int.min_eq_right z]
          exact List.mem_cons_of_mem _ List.mem_cons_self
      · exact List.mem_cons_of_mem _ (List.mem_cons_of_mem _ b)
theorem vals_perm {l s : List Int} {k : Nat} (pk : Pk l.length k s) : l.Perm ((s.map fun i => l.getD i.toNat 0) ++ ((rest l.length s).map fun i => l.getD i.toNat 0)) := by
  have p := (Tr.rest_perm pk).map fun i : Int => l.getD i.toNat 0
  rw [List.map_append, List.map_map] at p
  have e : (List.range l.length).map ((fun i : Int => l.getD i.toNat 0) ∘ fun (i : Nat) => (i : Int)) = l := by
    have := Qg.map_fn_range l
    exact this
  rw [e] at p
  exact p.symm
theorem lets_ge {c : Int} {l r s : List Int} {v : Int} {k : Nat} (c0 : 0 ≤ c) (hl : ∀ x ∈ l, 0 ≤ x) (hr : ∀ x ∈ r, 0 ≤ x) (mv : Mn c l r v) (pk : Pk l.length k s) : v ≤ lets c l r s := by
  obtain ⟨x, j, h1, h2, h3, h4⟩ := Mf.attain c0 (dn_perm l) (dn_sorted l) (dn_perm r) (dn_sorted r) hl hr
  have h5 := Mf.weak h1 h2 (vals_perm pk)
  have h6 := mv.2 j h3
  have h7 := Tr.sat_rest (l := l) pk
  rw [List.length_map] at h5
  unfold lets
  unfold sat at h7 ⊢
  omega
theorem lets_hvy {c : Int} {l r : List Int} {k : Nat} (hk : k ≤ l.length) : lets c l r (hvy l k) = Mf.cut c (dn l) r k := by
  unfold lets
  rw [sum_dn, (Tr.hvy_pk hk).ln]
  rfl
theorem min_sets {c : Int} {l r : List Int} (c0 : 0 ≤ c) (hl : ∀ x ∈ l, 0 ≤ x) (hr : ∀ x ∈ r, 0 ≤ x) {n : Int} {ns : List Int} (e : (subs l.length).map (lets c l r) = n :: ns) : Mn c l r (ns.foldl min n) := by
  obtain ⟨a, b⟩ := foldl_min ns n
  rw [← e] at a b
  have low : ∀ k, k ≤ l.length → ns.foldl min n ≤ Mf.cut c (dn l) r k := fun k hk => by
    have pk := Tr.hvy_pk (b := l) hk
    rw [← lets_hvy hk]
    exact a _ (List.mem_map.mpr ⟨hvy l k, Mf.subs_mem _ _ pk.up pk.rg, rfl⟩)
  obtain ⟨v, mv⟩ : ∃ v, Mn c l r v := by
    obtain ⟨x, j, h1, h2, h3, h4⟩ := Mf.attain c0 (dn_perm l) (dn_sorted l) (dn_perm r) (dn_sorted r) hl hr
    refine ⟨_, ⟨j, h3, h4⟩, fun k hk => ?_⟩
    have pk := Tr.hvy_pk (b := l) hk
    have h5 := Mf.weak h1 h2 (vals_perm pk)
    have h7 := Tr.sat_rest (l := l) pk
    have h8 := lets_hvy (c := c) (r := r) hk
    rw [List.length_map] at h5
    unfold lets at h8
    unfold sat at h7 h8
    omega
  obtain ⟨s, hs, es⟩ := List.mem_map.mp b
  have g := lets_ge c0 hl hr mv (sub_pk hs)
  obtain ⟨k, hk, ek⟩ := mv.1
  have := low k hk
  refine ⟨⟨k, hk, ?_⟩, low⟩
  omega
theorem pure_L_by_sets (ds : List D) (Q : D → Prop) (Ex : Xc → Prop) (h : F_L_by_sets ds Q Ex) : w_L_by_sets (dEnds Q Ex) (startE N_L_by_sets ds) := by
  obtain ⟨c, l, r, rfl, c0, c9, l6, hl, hr, q⟩ := h
  refine ⟨Nat.le_of_ble_eq_true rfl, ?_⟩
  refine ⟨l.length, by show [D.int ((l.map D.int).length : Int)] = _; rw [List.length_map], l6, ?_⟩
  have l64 : (subs l.length).length ≤ 64 := by
    rw [Mf.subs_len]
    exact Nat.le_trans (Nat.pow_le_pow_right (by decide) l6) (by decide)
  try dsimp only
  show forW _ _ _ ((subs l.length).map Ti) [some (.d (.int c)), some (.d (Ti l)), some (.d (Ti r)), some (.own []), none, none, none, none]
  refine forW_ind (fun rest env => ∃ (done left : List (List Int)) (j4 j5 j6 j7 : Option Sl), subs l.length = done ++ left ∧ rest = left.map Ti ∧ env = [some (.d (.int c)), some (.d (Ti l)), some (.d (Ti r)), some (.own ((done.map (lets c l r)).map D.int)), j4, j5, j6, j7]) ?_ ?_ _ _ ⟨[], subs l.length, none, none, none, none, rfl, rfl, rfl⟩
  · rintro x rest env ⟨done, left, j4, j5, j6, j7, es, er, rfl⟩ ih
    cases left with
    | nil => cases er
    | cons s left =>
      cases er
      have hs : s ∈ subs l.length := by rw [es]; exact List.mem_append_right _ List.mem_cons_self
      have pk := sub_pk hs
      refine oth_comp (is := s) (v := 6) (u := 7) (fun a b => [some (.d (.int c)), some (.d (Ti l)), some (.d (Ti r)), some (.own ((done.map (lets c l r)).map D.int)), some (.d (Ti s)), j5, a, b]) j6 j7 (fun _ _ _ _ => rfl) (fun i y K ex p k => ⟨p, k⟩) (fun x y K ex k => k) fun a b => ?_
      refine ⟨oth l s, rfl, c, s.length, r, ?_, c0, c9, ?_⟩
      · show [D.int c, D.int ((s.map D.int).length : Int), Ti r] = _
        rw [List.length_map]
      · rw [oth_sum pk]
        refine ⟨?_, ?_⟩
        · have := congrArg List.length es
          rw [List.length_append, List.length_cons] at this
          rw [List.length_map, List.length_map]
          omega
        · refine ih _ ⟨done ++ [s], left, some (.d (Ti s)), some (.d (.lst ((oth l s).map D.int))), keepD j6, keepD j7, by rw [List.append_assoc]; exact es, rfl, ?_⟩
          rw [List.map_append, List.map_append]
          rfl
  · rintro env ⟨done, left, j4, j5, j6, j7, es, er, rfl⟩
    cases left with
    | cons s left => cases er
    | nil =>
      rw [List.append_nil] at es
      subst es
      cases e : (subs l.length).map (lets c l r) with
      | nil =>
        have := congrArg List.length e
        rw [List.length_map, Mf.subs_len] at this
        have : 0 < 2 ^ l.length := Nat.pow_pos (by decide)
        simp_all
      | cons n ns =>
        refine ⟨n, ns, rfl, q _ (min_sets c0 hl hr e)⟩
theorem len_L_by_sets (ds : List D) (Q : D → Prop) (Ex : Xc → Prop) (h : F_L_by_sets ds Q Ex) : ds.length = 3 := by
  obtain ⟨c, l, r, rfl, _⟩ := h
  rfl
end Pr

namespace Mf
open Qg (fn rm sm Feas)
theorem rc_nn {cap : Int} : ∀ {ls c x : List Int}, Rc cap ls c x → 0 ≤ c.sum - x.sum
  | [], c, x, h => by rw [show x = c from h]; omega
  | l :: ls, c, x, ⟨r, h1, h2, h3⟩ => by
    have := rc_nn h3
    rw [sum_sub h1.1] at this
    have r0 : 0 ≤ r.sum := by
      have : ∀ {l : List Int}, (∀ x ∈ l, 0 ≤ x) → 0 ≤ l.sum := fun {l} h => by
        induction l with
        | nil => simp
        | cons a l ih =>
          have := h a List.mem_cons_self
          have := ih fun x hx => h x (List.mem_cons_of_mem _ hx)
          rw [List.sum_cons]
          omega
      exact this fun x hx => (h1.2 x hx).1
    omega
def mn (c x : Int) : Int := if x < c then x else c
def stp (c : Int) (R : List (List Int)) (x : Int) : List (List Int) := R.flatMap fun w => (List.range (mn c x + 1).toNat).map fun (o : Nat) => w ++ [(o : Int)]
theorem stp_len (c x : Int) : ∀ R : List (List Int), (stp c R x).length = R.length * (mn c x + 1).toNat
  | [] => by simp [stp]
  | w :: R => by
    have := stp_len c x R
    unfold stp at this ⊢
    rw [List.flatMap_cons, List.length_append, this, List.length_map, List.length_range, List.length_cons, Nat.succ_mul, Nat.add_comm]
theorem rows_len {c : Int} (c2 : c ≤ 2) : ∀ (r : List Int) (acc : List (List Int)), (r.foldl (stp c) acc).length ≤ acc.length * 3 ^ r.length
  | [], acc => by simp
  | x :: r, acc => by
    have := rows_len c2 r (stp c acc x)
    rw [stp_len] at this
    have m : (mn c x + 1).toNat ≤ 3 := by
      unfold mn
      split <;> omega
    have := Nat.mul_le_mul_right (3 ^ r.length) (Nat.mul_le_mul_left acc.length m)
    rw [List.foldl_cons, List.length_cons, Nat.pow_succ, Nat.mul_comm (3 ^ r.length), ← Nat.mul_assoc]
    omega
theorem rows_mem {c : Int} : ∀ (r : List Int) (acc : List (List Int)) (w : List Int), w ∈ r.foldl (stp c) acc ↔ ∃ a u, a ∈ acc ∧ w = a ++ u ∧ u.length = r.length ∧ ∀ j, j < r.length → 0 ≤ fn u j ∧ fn u j ≤ mn c (fn r j)
  | [], acc, w => by
    constructor
    · intro h
      exact ⟨w, [], h, by simp, rfl, fun j hj => by simp at hj⟩
    · rintro ⟨a, u, h, rfl, hu, _⟩
      rw [List.eq_nil_of_length_eq_zero hu, List.append_nil]
      exact h
  | x :: r, acc, w => by
    rw [List.foldl_cons, rows_mem r]
    constructor
    · rintro ⟨a, u, h, rfl, hu, hb⟩
      obtain ⟨a', ha', h⟩ := List.mem_flatMap.mp h
      obtain ⟨o, ho, rfl⟩ := List.mem_map.mp h
      have ho := List.mem_range.mp ho
      refine ⟨a', (o : Int) :: u, ha', by simp, by simp [hu], fun j hj => ?_⟩
      cases j with
      | zero =>
        show 0 ≤ (o : Int) ∧ (o : Int) ≤ mn c x
        omega
      | succ j => simpa [fn] using hb j (by simpa using hj)
    · rintro ⟨a, u, h, rfl, hu, hb⟩
      cases u with
      | nil => simp at hu
      | cons o u =>
        have h0 : 0 ≤ o ∧ o ≤ mn c x := by simpa [fn] using hb 0 (by simp)
        refine ⟨a ++ [o], u, List.mem_flatMap.mpr ⟨a, h, List.mem_map.mpr ⟨o.toNat, List.mem_range.mpr (by omega), by rw [Int.toNat_of_nonneg h0.1]⟩⟩, by simp, by simpa using hu, fun j hj => ?_⟩
        simpa [fn] using hb (j + 1) (by simpa using hj)
def rowsOf (c : Int) (r : List Int) : List (List Int) := r.foldl (stp c) [[]]
theorem mem_rows {c : Int} {r w : List Int} : w ∈ rowsOf c r ↔ w.length = r.length ∧ ∀ j, j < r.length → 0 ≤ fn w j ∧ fn w j ≤ mn c (fn r j) := by
  unfold rowsOf
  rw [rows_mem]
  constructor
  · rintro ⟨a, u, h, rfl, h1, h2⟩
    rw [List.mem_singleton.mp h, List.nil_append]
    exact ⟨h1, h2⟩
  · rintro ⟨h1, h2⟩
    exact ⟨[], w, List.mem_singleton.mpr rfl, rfl, h1, h2⟩
theorem all_fn {P : Int → Prop} {x : List Int} : (∀ z ∈ x, P z) ↔ ∀ j, j < x.length → P (fn x j) := by
  constructor
  · exact fun h j hj => h _ (Qg.fn_mem hj)
  · intro h z hz
    obtain ⟨j, hj, rfl⟩ := List.mem_iff_getElem.mp hz
    have := h j hj
    simpa [fn, List.getD_eq_getElem?_getD, hj] using this
theorem rc_next {c : Int} {ls r : List Int} {m : Int} {x : List Int} : (Rc c (ls ++ [m]) r x ∧ ∀ z ∈ x, 0 ≤ z) ↔ (∀ z ∈ x, 0 ≤ z) ∧ ∃ y w, (Rc c ls r y ∧ ∀ z ∈ y, 0 ≤ z) ∧ w ∈ rowsOf c r ∧ w.sum ≤ m ∧ x = sub y w := by
  constructor
  · rintro ⟨h, x0⟩
    obtain ⟨y, h1, w, h2, h3, h4⟩ := rc_app.mp h
    have h4 : x = sub y w := h4
    subst h4
    obtain ⟨ly, by_⟩ := rc_fn h1
    have lw : w.length = y.length := h2.1
    have key : ∀ j, j < r.length → 0 ≤ fn w j ∧ fn w j ≤ c ∧ fn w j ≤ fn y j ∧ fn y j ≤ fn r j := fun j hj => by
      have a := fn_ok h2 (j := j) (by rw [ly]; exact hj)
      have b := all_fn.mp x0 j (by rw [sub_len lw, ly]; exact hj)
      rw [fn_sub lw (by rw [ly]; exact hj)] at b
      have d := by_ j hj
      omega
    refine ⟨x0, y, w, ⟨h1, all_fn.mpr fun j hj => ?_⟩, mem_rows.mpr ⟨lw.trans ly, fun j hj => ?_⟩, h3, rfl⟩
    · have := key j (by rw [← ly]; exact hj)
      omega
    · have := key j hj
      unfold mn
      split <;> omega
  · rintro ⟨x0, y, w, ⟨h1, _⟩, h2, h3, rfl⟩
    obtain ⟨lw, bw⟩ := mem_rows.mp h2
    obtain ⟨ly, _⟩ := rc_fn h1
    refine ⟨rc_app.mpr ⟨y, h1, w, ⟨lw.trans ly.symm, all_fn.mpr fun j hj => ?_⟩, h3, rfl⟩, x0⟩
    have := bw j (by rw [← lw]; exact hj)
    unfold mn at this
    split at this <;> omega
theorem foldl_max : ∀ (ns : List Int) (n : Int), (∀ x ∈ n :: ns, x ≤ ns.foldl max n) ∧ ns.foldl max n ∈ n :: ns
  | [], n => ⟨fun x hx => by rw [List.mem_singleton.mp hx]; exact Int.le_refl _, List.mem_cons_self⟩
  | m :: ns, n => by
    obtain ⟨a, b⟩ := foldl_max ns (max n m)
    have h0 := a _ List.mem_cons_self
    refine ⟨fun x hx => ?_, ?_⟩
    · show x ≤ ns.foldl max (max n m)
      rcases List.mem_cons.mp hx with rfl | hx
      · omega
      · rcases List.mem_cons.mp hx with rfl | hx
        · omega
        · exact a x (List.mem_cons_of_mem _ hx)
    · show ns.foldl max (max n m) ∈ _
      rcases List.mem_cons.mp b with e | b
      · rw [e]
        rcases Int.le_total n m with z | z
        · rw [Int.max_eq_right z]
          exact List.mem_cons_of_mem _ List.mem_cons_self
        · rw [Int.max_eq_left z]
          exact List.mem_cons_self
      · exact List.mem_cons_of_mem _ (List.mem_cons_of_mem _ b)
theorem force {c : Int} {l r d e : List Int} (c0 : 0 ≤ c) (pd : d.Perm l) (sd : d.Pairwise fun a b => b ≤ a) (pe : e.Perm r) (se : e.Pairwise fun a b => b ≤ a) (hl : ∀ x ∈ l, 0 ≤ x) (hr : ∀ x ∈ r, 0 ≤ x) {K : List (List Int)} (hK : ∀ x, x ∈ K ↔ Rc c l r x ∧ ∀ z ∈ x, 0 ≤ z) {n : Int} {ns : List Int}
    (en : (K.map fun x => r.sum - x.sum) = n :: ns) : (∃ k, k ≤ l.length ∧ ns.foldl max n = cut c d r k) ∧ ∀ k, k ≤ l.length → ns.foldl max n ≤ cut c d r k := by
  obtain ⟨a, b⟩ := foldl_max ns n
  rw [← en] at a b
  obtain ⟨x, hx, ex⟩ := List.mem_map.mp b
  obtain ⟨rx, x0⟩ := (hK x).mp hx
  have up : ∀ k, k ≤ l.length → ns.foldl max n ≤ cut c d r k := fun k hk => by
    have := weak rx x0 (a := d.take k) (b := d.drop k) (by rw [List.take_append_drop]; exact pd.symm)
    rw [List.length_take, Nat.min_eq_left (by rw [pd.length_eq]; exact hk)] at this
    unfold cut
    omega
  obtain ⟨y, k, ry, y0, hk, ey⟩ := attain c0 pd sd pe se hl hr
  have := a _ (List.mem_map.mpr ⟨y, (hK y).mpr ⟨ry, y0⟩, rfl⟩)
  have := up k hk
  exact ⟨⟨k, hk, by omega⟩, up⟩
def nnB (x : List Int) : Bool := x.all fun z => decide (0 ≤ z)
theorem nnB_iff {x : List Int} : nnB x = true ↔ ∀ z ∈ x, 0 ≤ z := by simp [nnB, List.all_eq_true]
def add (L : List (List Int)) (x : List Int) : List (List Int) := if nnB x = true then (if x ∈ L then L else L ++ [x]) else L
def one (F : List (List Int)) (L : List (List Int)) (y : List Int) : List (List Int) := F.foldl (fun L w => add L (sub y w)) L
def nxt (K F : List (List Int)) : List (List Int) := K.foldl (one F) []
def fit (c : Int) (r : List Int) (m : Int) : List (List Int) := (rowsOf c r).filter fun w => decide (w.sum ≤ m)
def known (c : Int) (r : List Int) (ls : List Int) : List (List Int) := ls.foldl (fun K m => nxt K (fit c r m)) [r]
theorem add_mem {L : List (List Int)} {x z : List Int} : z ∈ add L x ↔ z ∈ L ∨ ((∀ u ∈ x, 0 ≤ u) ∧ z = x) := by
  unfold add
  by_cases n : nnB x = true
  · rw [if_pos n]
    by_cases m : x ∈ L
    · rw [if_pos m]
      exact ⟨.inl, fun h => h.elim id fun h => h.2 ▸ m⟩
    · rw [if_neg m, List.mem_append, List.mem_singleton]
      exact ⟨fun h => h.imp id fun h => ⟨nnB_iff.mp n, h⟩, fun h => h.imp id (·.2)⟩
  · rw [if_neg n]
    exact ⟨.inl, fun h => h.elim id fun h => absurd (nnB_iff.mpr h.1) n⟩
theorem add_len (L : List (List Int)) (x : List Int) : (add L x).length ≤ L.length + 1 := by
  unfold add
  split
  · split
    · omega
    · simp
  · omega
theorem one_mem {y z : List Int} : ∀ {F L : List (List Int)}, z ∈ one F L y ↔ z ∈ L ∨ ((∀ u ∈ z, 0 ≤ u) ∧ ∃ w ∈ F, z = sub y w)
  | [], L => by simp [one]
  | w :: F, L => by
    have ih := one_mem (y := y) (z := z) (F := F) (L := add L (sub y w))
    show z ∈ one F (add L (sub y w)) y ↔ _
    rw [ih, add_mem]
    constructor
    · rintro ((h | ⟨h1, rfl⟩) | ⟨h1, w', h2, h3⟩)
      · exact .inl h
      · exact .inr ⟨h1, w, List.mem_cons_self, rfl⟩
      · exact .inr ⟨h1, w', List.mem_cons_of_mem _ h2, h3⟩
    · rintro (h | ⟨h1, w', h2, h3⟩)
      · exact .inl (.inl h)
      · rcases List.mem_cons.mp h2 with rfl | h2
        · exact .inl (.inr ⟨h3 ▸ h1, h3⟩)
        · exact .inr ⟨h1, w', h2, h3⟩
theorem one_len (y : List Int) : ∀ (F L : List (List Int)), (one F L y).length ≤ L.length + F.length
  | [], L => by simp [one]
  | w :: F, L => by
    have := one_len y F (add L (sub y w))
    have := add_len L (sub y w)
    show (one F (add L (sub y w)) y).length ≤ _
    rw [List.length_cons]
    omega
theorem foldl_mem {F : List (List Int)} {z : List Int} : ∀ {K L : List (List Int)}, z ∈ K.foldl (one F) L ↔ z ∈ L ∨ ((∀ u ∈ z, 0 ≤ u) ∧ ∃ y ∈ K, ∃ w ∈ F, z = sub y w)
  | [], L => by simp
  | y :: K, L => by
    rw [List.foldl_cons, foldl_mem, one_mem]
    constructor
    · rintro ((h | ⟨h1, w, h2, h3⟩) | ⟨h1, y', h2, h3⟩)
      · exact .inl h
      · exact .inr ⟨h1, y, List.mem_cons_self, w, h2, h3⟩
      · exact .inr ⟨h1, y', List.mem_cons_of_mem _ h2, h3⟩
    · rintro (h | ⟨h1, y', h2, w, h3, h4⟩)
      · exact .inl (.inl h)
      · rcases List.mem_cons.mp h2 with rfl | h2
        · exact .inl (.inr ⟨h1, w, h3, h4⟩)
        · exact .inr ⟨h1, y', h2, w, h3, h4⟩
theorem foldl_len {F : List (List Int)} : ∀ (K L : List (List Int)), (K.foldl (one F) L).length ≤ L.length + K.length * F.length
  | [], L => by simp
  | y :: K, L => by
    have a := foldl_len (F := F) K (one F L y)
    have b := one_len y F L
    rw [List.foldl_cons, List.length_cons, Nat.succ_mul]
    omega
theorem known_mem {c : Int} {r x : List Int} (r0 : ∀ z ∈ r, 0 ≤ z) (ls : List Int) : ∀ x, x ∈ known c r ls ↔ Rc c ls r x ∧ ∀ z ∈ x, 0 ≤ z := by
  have key : ∀ n (ls : List Int), ls.length = n → ∀ x, x ∈ known c r ls ↔ Rc c ls r x ∧ ∀ z ∈ x, 0 ≤ z := by
    intro n
    induction n with
    | zero =>
      intro ls e x
      rw [List.eq_nil_of_length_eq_zero e]
      show x ∈ [r] ↔ x = r ∧ _
      rw [List.mem_singleton]
      exact ⟨fun h => ⟨h, h ▸ r0⟩, (·.1)⟩
    | succ n ih =>
      intro ls e x
      have ne : ls ≠ [] := fun z => by rw [z] at e; cases e
      obtain ⟨m, em⟩ : ∃ m, m = ls.getLast ne := ⟨_, rfl⟩
      have el := List.dropLast_concat_getLast ne
      rw [← em] at el
      have ih := ih ls.dropLast (by rw [List.length_dropLast, e]; rfl)
      rw [← el, rc_next]
      unfold known at ih ⊢
      rw [List.foldl_append, List.foldl_cons, List.foldl_nil]
      unfold nxt
      rw [foldl_mem]
      constructor
      · rintro (h | ⟨h1, y, h2, w, h3, h4⟩)
        · cases h
        · obtain ⟨h5, h6⟩ := List.mem_filter.mp h3
          exact ⟨h1, y, w, (ih y).mp h2, h5, of_decide_eq_true h6, h4⟩
      · rintro ⟨h1, y, w, h2, h3, h4, h5⟩
        exact .inr ⟨h1, y, (ih y).mpr h2, w, List.mem_filter.mpr ⟨h3, decide_eq_true h4⟩, h5⟩
  exact key _ ls rfl
theorem known_len {c : Int} {r : List Int} {B : Nat} (b : ∀ m, (fit c r m).length ≤ B) : ∀ (ls : List Int) (K : List (List Int)), (ls.foldl (fun K m => nxt K (fit c r m)) K).length ≤ K.length * B ^ ls.length
  | [], K => by simp
  | m :: ls, K => by
    have a := known_len b ls (nxt K (fit c r m))
    have d := foldl_len (F := fit c r m) K []
    rw [List.length_nil, Nat.zero_add] at d
    have e := Nat.le_trans d (Nat.mul_le_mul_left K.length (b m))
    have f := Nat.mul_le_mul_right (B ^ ls.length) e
    rw [List.foldl_cons, List.length_cons, Nat.pow_succ, Nat.mul_comm (B ^ ls.length), ← Nat.mul_assoc]
    exact Nat.le_trans a f
end Mf

namespace Pr
open PySem PySem.Spec PyProof.Rows L2 LamX Pd
open Ta (Tb lnD tbD wd lsum csum badN)
open Tq (Cn smD pl_Ti upTo0 comp_zip)
open Tr (Pk sat hvy Sml rest)
open Mf (subs stp rowsOf mn Rc)
theorem iK_inj {a b : List Int} (h : iK a = iK b) : a = b := by
  unfold iK at h
  exact List.map_inj_right (fun x y e => Sum.inl.inj e) |>.mp h
theorem keyT_iK (r : List Int) : keyT (iK r) = Ti r := by
  unfold keyT iK
  rw [List.map_map]
  rfl
def kn (r : List Int) (L : List (List Int)) : List (List Key × D) := L.map fun x => (iK x, .int (r.sum - x.sum))
theorem kn_keys (r : List Int) (L : List (List Int)) : ((kn r L).map (·.1)).map keyT = L.map Ti := by
  unfold kn
  rw [List.map_map, List.map_map]
  exact List.map_congr_left fun x _ => keyT_iK x
theorem kn_look {r : List Int} {x : List Int} : ∀ {L : List (List Int)}, lookG (kn r L) (iK x) = if x ∈ L then some (.int (r.sum - x.sum)) else none
  | [] => rfl
  | y :: L => by
    have ih := kn_look (r := r) (x := x) (L := L)
    unfold lookG kn at ih ⊢
    rw [List.map_cons, List.find?_cons]
    by_cases e : y = x
    · subst e
      simp
    · have ne : ¬ (iK y = iK x) := fun z => e (iK_inj z)
      rw [show decide ((iK y, D.int (r.sum - y.sum)).1 = iK x) = false from decide_eq_false ne]
      dsimp only
      rw [ih]
      by_cases m : x ∈ L
      · rw [if_pos m, if_pos (List.mem_cons_of_mem _ m)]
      · rw [if_neg m, if_neg (fun z => (List.mem_cons.mp z).elim (fun z => e z.symm) m)]
theorem kn_put {r : List Int} {x : List Int} {L : List (List Int)} : putG (kn r L) (iK x) (.int (r.sum - x.sum)) = kn r (if x ∈ L then L else L ++ [x]) := by
  have hm : ((kn r L).any fun kv => decide (kv.1 = iK x)) = decide (x ∈ L) := by
    rw [Bool.eq_iff_iff, List.any_eq_true, decide_eq_true_eq]
    constructor
    · rintro ⟨kv, h1, h2⟩
      obtain ⟨y, hy, rfl⟩ := List.mem_map.mp h1
      rw [← iK_inj (of_decide_eq_true h2)]
      exact hy
    · intro h
      exact ⟨_, List.mem_map.mpr ⟨x, h, rfl⟩, decide_eq_true rfl⟩
  unfold putG
  rw [hm]
  by_cases m : x ∈ L
  · rw [if_pos (decide_eq_true m), if_pos m]
    unfold kn
    rw [List.map_map]
    refine List.map_congr_left fun y _ => ?_
    show (if iK y = iK x then (iK y, D.int (r.sum - x.sum)) else (iK y, D.int (r.sum - y.sum))) = _
    split
    · rename_i e
      rw [iK_inj e]
    · rfl
  · rw [if_neg (by simpa using m), if_neg m]
    unfold kn
    rw [List.map_append]
    rfl
theorem sub_zip : ∀ (y w : List Int), Mf.sub y w = (y.zip w).map fun q => q.1 - q.2
  | [], _ => by simp [Mf.sub]
  | _ :: _, [] => by simp [Mf.sub]
  | a :: y, b :: w => by
    have := sub_zip y w
    unfold Mf.sub at this ⊢
    rw [List.zipWith_cons_cons, List.zip_cons_cons, List.map_cons, this]
theorem rows_loop {c : Int} {l r : List Int} {fin : PEnv → Prop} {P : (PEnv → Prop) → PEnds} (c0 : 0 ≤ c) (c2 : c ≤ 2) (r3 : r.length ≤ 3) (hr : ∀ x ∈ r, 0 ≤ x ∧ x ≤ 6) (hP : ∀ nx, (P nx).nx = nx)
    (q : ∀ j4 j7 j8 j11, fin [some (.d (.int c)), some (.d (Ti l)), some (.d (Ti r)), some (.d (.lst ((rowsOf c r).map Ti))), j4, none, none, j7, j8, none, none, j11, none]) :
    forW (gNm 4) (fun nx => sSeq (sSetOwn 7 (wSz wNil)) (sSeq (sFor (wItems (wVar 3)) (gNm 8) (sDrop (wExtend 7 (wLst (wComp (wRng1 (xBin fAdd (wN dMin2 (wCons (wVar 0) (wCons (wVar 4) wNil))) (W.ret (.int 1)))) (gNm 11) (W.ret true) (xBin fAdd (wVar 8) (wTup (wCons (wVar 11) wNil))) [11]))))) (sSet 3 (wFrz 7))) (P nx)) fin (r.map D.int)
      [some (.d (.int c)), some (.d (Ti l)), some (.d (Ti r)), some (.d (.lst [.tup []])), none, none, none, none, none, none, none, none, none] := by
  refine forW_ind (fun rest env => ∃ (done left : List Int) (j4 j7 j8 j11 : Option Sl), r = done ++ left ∧ rest = left.map D.int ∧ env = [some (.d (.int c)), some (.d (Ti l)), some (.d (Ti r)), some (.d (.lst ((done.foldl (stp c) [[]]).map Ti))), j4, none, none, j7, j8, none, none, j11, none]) ?_ ?_ _ _ ⟨[], r, none, none, none, none, rfl, rfl, rfl⟩
  · rintro x rest env ⟨done, left, j4, j7, j8, j11, es, er, rfl⟩ ih
    cases left with
    | nil => cases er
    | cons x left =>
      cases er
      have hx : 0 ≤ x ∧ x ≤ 6 := hr x (by rw [es]; exact List.mem_append_right _ List.mem_cons_self)
      have ld : done.length ≤ 2 := by
        have := congrArg List.length es
        rw [List.length_append, List.length_cons] at this
        omega
      have R9 : (done.foldl (stp c) [[]]).length ≤ 9 := by
        have a := Mf.rows_len c2 done [[]]
        have b : 3 ^ done.length ≤ 9 := Nat.le_trans (Nat.pow_le_pow_right (by decide) ld) (by decide)
        rw [List.length_singleton, Nat.one_mul] at a
        omega
      have lenR : ∀ w ∈ done.foldl (stp c) [[]], w.length ≤ 2 := fun w hw => by
        have := (Mf.mem_rows (c := c) (r := done)).mp hw
        omega
      have em : (if x < c then x else c) = mn c x := rfl
      have m2 : 0 ≤ mn c x ∧ mn c x ≤ 2 := by
        unfold mn
        split <;> omega
      generalize hR : done.foldl (stp c) [[]] = R at *
      refine ⟨Nat.le_of_ble_eq_true rfl, ?_⟩
      try dsimp only
      show forW _ _ _ (R.map Ti) [some (.d (.int c)), some (.d (Ti l)), some (.d (Ti r)), some (.d (.lst (R.map Ti))), some (.d (.int x)), none, none, some (.own []), j8, none, none, j11, none]
      refine forW_ind (fun rest env => ∃ (d2 l2 : List (List Int)) (j8 j11 : Option Sl), R = d2 ++ l2 ∧ rest = l2.map Ti ∧ env = [some (.d (.int c)), some (.d (Ti l)), some (.d (Ti r)), some (.d (.lst (R.map Ti))), some (.d (.int x)), none, none, some (.own ((stp c d2 x).map Ti)), j8, none, none, j11, none]) ?_ ?_ _ _ ⟨[], R, j8, j11, rfl, rfl, rfl⟩
      · rintro w rest env ⟨d2, l2, j8, j11, es2, er2, rfl⟩ ih2
        cases l2 with
        | nil => cases er2
        | cons w l2 =>
          cases er2
          have hw : w.length ≤ 2 := lenR w (by rw [es2]; exact List.mem_append_right _ List.mem_cons_self)
          refine ⟨show (if x < c then x else c) + 1 ≤ 1000000 by rw [em]; omega, show -1000000 ≤ (if x < c then x else c) + 1 by rw [em]; omega, ?_⟩
          show compW _ _ _ _ _ (Pd.upTo 0 ((if x < c then x else c) + 1)) [some (.d (.int c)), some (.d (Ti l)), some (.d (Ti r)), some (.d (.lst (R.map Ti))), some (.d (.int x)), none, none, some (.own ((stp c d2 x).map Ti)), some (.d (Ti w)), none, none, j11, none] _
          rw [em, upTo0]
          refine comp_all (fun z => [some (.d (.int c)), some (.d (Ti l)), some (.d (Ti r)), some (.d (.lst (R.map Ti))), some (.d (.int x)), none, none, some (.own ((stp c d2 x).map Ti)), some (.d (Ti w)), none, none, z, none]) (fun (o : Nat) => D.int (o : Int)) (fun o => Ti (w ++ [(o : Int)])) (List.range (mn c x + 1).toNat) _ [] (fun _ _ => rfl) (fun o _ K ex k => ?_) fun z => ?_
          · have e : Ti (w ++ [(o : Int)]) = .tup (w.map D.int ++ [D.int (o : Int)]) := by
              show D.tup (List.map _ _) = _
              rw [List.map_append]
              rfl
            rw [e] at k
            refine ⟨Nat.le_of_ble_eq_true rfl, ?_, k⟩
            rw [List.length_map]
            show w.length + 1 ≤ _
            omega
          · rw [List.nil_append]
            have es3 : stp c (d2 ++ [w]) x = stp c d2 x ++ (List.range (mn c x + 1).toNat).map fun (o : Nat) => w ++ [(o : Int)] := by
              unfold stp
              rw [List.flatMap_append]
              simp
            have ls : (stp c (d2 ++ [w]) x).length ≤ 27 := by
              rw [Mf.stp_len, List.length_append, List.length_singleton]
              have h1 := congrArg List.length es2
              rw [List.length_append, List.length_cons] at h1
              have h2 : (mn c x + 1).toNat ≤ 3 := by omega
              exact Nat.le_trans (Nat.mul_le_mul (show d2.length + 1 ≤ 9 by omega) h2) (by decide)
            refine ⟨?_, ih2 _ ⟨d2 ++ [w], l2, some (.d (Ti w)), keepD j11, by rw [List.append_assoc]; exact es2, rfl, ?_⟩⟩
            · rw [es3, List.length_append] at ls
              rw [List.length_map, List.length_map]
              rw [List.length_map] at ls
              omega
            · rw [es3, List.map_append, List.map_map]
              rfl
      · rintro env ⟨d2, l2, j8, j11, es2, er2, rfl⟩
        cases l2 with
        | cons w l2 => cases er2
        | nil =>
          rw [List.append_nil] at es2
          subst es2
          show (P _).nx _
          rw [hP]
          refine ih _ ⟨done ++ [x], left, some (.d (.int x)), some (.d (.lst ((stp c R x).map Ti))), j8, j11, by rw [List.append_assoc]; exact es, rfl, ?_⟩
          rw [List.foldl_append, hR]
          rfl
  · rintro env ⟨done, left, j4, j7, j8, j11, es, er, rfl⟩
    cases left with
    | cons x left => cases er
    | nil =>
      rw [List.append_nil] at es
      subst es
      exact q _ _ _ _
end Pr

namespace Pr
open PySem PySem.Spec PyProof.Rows L2 LamX Pd
open Ta (Tb lnD tbD wd lsum csum badN)
open Tq (Cn smD pl_Ti upTo0 comp_zip)
open Tr (Pk sat hvy Sml rest)
open Mf (subs stp rowsOf mn Rc nnB add one nxt fit known)
theorem foldl_min_nn {n : Int} {ns : List Int} : ns.foldl min n ≥ 0 ↔ nnB (n :: ns) = true := by
  obtain ⟨a, b⟩ := foldl_min ns n
  rw [Mf.nnB_iff]
  constructor
  · intro h z hz
    have := a z hz
    omega
  · exact fun h => h _ b
theorem try_row {pe : PEnds} {c m : Int} {l r y w : List Int} {K L : List (List Int)} {R : D} {j4 j10 j11 j12 : Option Sl} (ly : y.length = r.length) (lw : w.length = r.length) (r1 : 1 ≤ r.length) (hK : y ∈ K) (y0 : 0 ≤ r.sum - y.sum) (w0 : 0 ≤ w.sum) (hL : L.length < 1000000)
    (h : pe.nx [some (.d (.int c)), some (.d (Ti l)), some (.d (Ti r)), some (.d R), j4, some (.d (.dit (kn r K))), some (.d (.int m)), some (.dct none (.t (kn r (add L (Mf.sub y w))))), some (.d (Ti w)), some (.d (Ti y)), some (.d (Ti (Mf.sub y w))), keepD j11, keepD j12]) :
    sSeq (sSet 10 (w1 dTuple (wLst (wComp (wZip (wVar 9) (wVar 8)) (gTupP (gsCons (gNm 11) (gsCons (gNm 12) gsNil)) 2) (W.ret true) (wBin dSub (wVar 11) (wVar 12)) [11, 12])))) (sIf (wTest (wBin dGe (x1 fMinL (wVar 10)) (W.ret (.int 0)))) (sDcuPut 7 (wVar 10) (wN dMax2 (wCons (wDcuGetD 7 (wVar 10) (W.ret (.int 0))) (wCons (xBin fAdd (wDitGet (wVar 5) (wVar 9)) (x1 fSum (wVar 8))) wNil)))) sNil) pe
      [some (.d (.int c)), some (.d (Ti l)), some (.d (Ti r)), some (.d R), j4, some (.d (.dit (kn r K))), some (.d (.int m)), some (.dct none (.t (kn r L))), some (.d (Ti w)), some (.d (Ti y)), j10, j11, j12] := by
  show compW _ _ _ _ _ (zipD (y.map D.int) (w.map D.int)) _ _
  refine comp_zip (a := y) (b := w) (v := 11) (u := 12) (fun a b => [some (.d (.int c)), some (.d (Ti l)), some (.d (Ti r)), some (.d R), j4, some (.d (.dit (kn r K))), some (.d (.int m)), some (.dct none (.t (kn r L))), some (.d (Ti w)), some (.d (Ti y)), j10, a, b]) (fun a b => D.int (a - b)) j11 j12 (fun _ _ _ _ => rfl) (fun a b K ex k => k) fun a b => ?_
  have ex : ((y.zip w).map fun q => D.int (q.1 - q.2)) = (Mf.sub y w).map D.int := by
    rw [sub_zip, List.map_map]
    rfl
  rw [ex]
  have ls := Mf.sub_len (c := y) (r := w) (lw.trans ly.symm)
  have ss := Mf.sum_sub (c := y) (r := w) (lw.trans ly.symm)
  generalize Mf.sub y w = x at *
  cases hx : x with
  | nil =>
    rw [hx] at ls
    simp at ls
    omega
  | cons n ns =>
    have em : (nnB x = true) ↔ ns.foldl min n ≥ 0 := by rw [hx]; exact foldl_min_nn.symm
    refine ⟨n, ns, rfl, br_if (fun z => ?_) fun z => ?_⟩
    · have nn := em.mpr z
      rw [← hx]
      refine ⟨x, rfl, ?_⟩
      rw [kn_look]
      unfold Mf.add at h
      rw [if_pos nn] at h
      have fin : ∀ v : Int, v = r.sum - x.sum → pe.nx [some (.d (.int c)), some (.d (Ti l)), some (.d (Ti r)), some (.d R), j4, some (.d (.dit (kn r K))), some (.d (.int m)), some (.dct none (.t (putG (kn r L) (iK x) (.int v)))), some (.d (Ti w)), some (.d (Ti y)), some (.d (Ti x)), keepD j11, keepD j12] := fun v e => by
        rw [e, kn_put]
        exact h
      have lk : (kn r L).length < 1000000 := by unfold kn; rw [List.length_map]; exact hL
      by_cases mm : x ∈ L
      · rw [if_pos mm]
        refine ⟨kn r K, y, .int (r.sum - y.sum), rfl, rfl, by rw [kn_look, if_pos hK], ?_⟩
        exact ⟨w, rfl, x, rfl, lk, fin _ (by split <;> omega)⟩
      · rw [if_neg mm]
        refine ⟨kn r K, y, .int (r.sum - y.sum), rfl, rfl, by rw [kn_look, if_pos hK], ?_⟩
        exact ⟨w, rfl, x, rfl, lk, fin _ (by split <;> omega)⟩
    · have nn : ¬ (nnB x = true) := fun y => z (em.mp y)
      unfold Mf.add at h
      rw [if_neg nn, hx] at h
      exact h
end Pr

namespace Pr
open PySem PySem.Spec PyProof.Rows L2 LamX Pd
open Ta (Tb lnD tbD wd lsum csum badN)
open Tq (Cn smD pl_Ti upTo0 comp_zip)
open Tr (Pk sat hvy Sml rest)
open Mf (subs stp rowsOf mn Rc nnB add one nxt fit known)
theorem sum_nn {l : List Int} (h : ∀ x ∈ l, 0 ≤ x) : 0 ≤ l.sum := by
  induction l with
  | nil => simp
  | cons a l ih =>
    have := h a List.mem_cons_self
    have := ih fun x hx => h x (List.mem_cons_of_mem _ hx)
    rw [List.sum_cons]
    omega
theorem row_nn {c : Int} {r w : List Int} (h : w ∈ rowsOf c r) : w.length = r.length ∧ 0 ≤ w.sum := by
  obtain ⟨a, b⟩ := Mf.mem_rows.mp h
  exact ⟨a, sum_nn (Mf.all_fn.mpr fun j hj => (b j (by rw [← a]; exact hj)).1)⟩
theorem line_loop {fin : PEnv → Prop} {P : (PEnv → Prop) → PEnds} {c m : Int} {l r : List Int} {K : List (List Int)} {j4 j8 j9 j10 j11 j12 : Option Sl} (c2 : c ≤ 2) (r3 : r.length ≤ 3) (r1 : 1 ≤ r.length) (hP : ∀ nx, (P nx).nx = nx) (hK : ∀ y ∈ K, y.length = r.length ∧ 0 ≤ r.sum - y.sum) (lK : K.length ≤ 30000)
    (q : ∀ j8 j9 j10 j11 j12, fin [some (.d (.int c)), some (.d (Ti l)), some (.d (Ti r)), some (.d (.lst ((rowsOf c r).map Ti))), j4, some (.d (.dit (kn r K))), some (.d (.int m)), some (.dct none (.t (kn r (nxt K (fit c r m))))), j8, j9, j10, j11, j12]) :
    forW (gNm 9) (fun nx => sFor (wItems (wLst (wComp (wItems (wVar 3)) (gNm 8) (wTest (wBin dLe (x1 fSum (wVar 8)) (wVar 6))) (wVar 8) [8]))) (gNm 8) (sSeq (sSet 10 (w1 dTuple (wLst (wComp (wZip (wVar 9) (wVar 8)) (gTupP (gsCons (gNm 11) (gsCons (gNm 12) gsNil)) 2) (W.ret true) (wBin dSub (wVar 11) (wVar 12)) [11, 12])))) (sIf (wTest (wBin dGe (x1 fMinL (wVar 10)) (W.ret (.int 0)))) (sDcuPut 7 (wVar 10) (wN dMax2 (wCons (wDcuGetD 7 (wVar 10) (W.ret (.int 0))) (wCons (xBin fAdd (wDitGet (wVar 5) (wVar 9)) (x1 fSum (wVar 8))) wNil)))) sNil)) (P nx)) fin (K.map Ti)
      [some (.d (.int c)), some (.d (Ti l)), some (.d (Ti r)), some (.d (.lst ((rowsOf c r).map Ti))), j4, some (.d (.dit (kn r K))), some (.d (.int m)), some (.dct none (.t (kn r []))), j8, j9, j10, j11, j12] := by
  have lR : (rowsOf c r).length ≤ 27 := by
    have a := Mf.rows_len c2 r [[]]
    have b : 3 ^ r.length ≤ 27 := Nat.le_trans (Nat.pow_le_pow_right (by decide) r3) (by decide)
    rw [List.length_singleton, Nat.one_mul] at a
    exact Nat.le_trans a b
  have lF : (fit c r m).length ≤ 27 := Nat.le_trans (List.length_filter_le _ _) lR
  refine forW_ind (fun rest env => ∃ (d2 l2 : List (List Int)) (j8 j9 j10 j11 j12 : Option Sl), K = d2 ++ l2 ∧ rest = l2.map Ti ∧ env = [some (.d (.int c)), some (.d (Ti l)), some (.d (Ti r)), some (.d (.lst ((rowsOf c r).map Ti))), j4, some (.d (.dit (kn r K))), some (.d (.int m)), some (.dct none (.t (kn r (nxt d2 (fit c r m))))), j8, j9, j10, j11, j12]) ?_ ?_ _ _ ⟨[], K, j8, j9, j10, j11, j12, rfl, rfl, rfl⟩
  · rintro x rest env ⟨d2, l2, j8, j9, j10, j11, j12, es, er, rfl⟩ ih
    cases l2 with
    | nil => cases er
    | cons y l2 =>
      cases er
      have hy : y ∈ K := by rw [es]; exact List.mem_append_right _ List.mem_cons_self
      obtain ⟨ly, y0⟩ := hK y hy
      have ld : d2.length + 1 ≤ 30000 := by
        have := congrArg List.length es
        rw [List.length_append, List.length_cons] at this
        omega
      refine comp_enc (fun z => [some (.d (.int c)), some (.d (Ti l)), some (.d (Ti r)), some (.d (.lst ((rowsOf c r).map Ti))), j4, some (.d (.dit (kn r K))), some (.d (.int m)), some (.dct none (.t (kn r (nxt d2 (fit c r m))))), z, some (.d (Ti y)), j10, j11, j12]) Ti Ti (fun w => decide (w.sum ≤ m)) (rowsOf c r) _ [] (fun _ _ => rfl) (fun w hw K' ex k => ⟨w, rfl, k⟩) (fun w hw _ K' ex k => k) fun z => ?_
      rw [List.nil_append]
      show forW _ _ _ ((fit c r m).map Ti) [some (.d (.int c)), some (.d (Ti l)), some (.d (Ti r)), some (.d (.lst ((rowsOf c r).map Ti))), j4, some (.d (.dit (kn r K))), some (.d (.int m)), some (.dct none (.t (kn r (nxt d2 (fit c r m))))), keepD j8, some (.d (Ti y)), j10, j11, j12]
      refine forW_ind (fun rest env => ∃ (d3 l3 : List (List Int)) (j8 j10 j11 j12 : Option Sl), fit c r m = d3 ++ l3 ∧ rest = l3.map Ti ∧ env = [some (.d (.int c)), some (.d (Ti l)), some (.d (Ti r)), some (.d (.lst ((rowsOf c r).map Ti))), j4, some (.d (.dit (kn r K))), some (.d (.int m)), some (.dct none (.t (kn r (one d3 (nxt d2 (fit c r m)) y)))), j8, some (.d (Ti y)), j10, j11, j12]) ?_ ?_ _ _ ⟨[], fit c r m, _, j10, j11, j12, rfl, rfl, rfl⟩
      · rintro x rest env ⟨d3, l3, j8, j10, j11, j12, es3, er3, rfl⟩ ih3
        cases l3 with
        | nil => cases er3
        | cons w l3 =>
          cases er3
          have hw : w ∈ fit c r m := by rw [es3]; exact List.mem_append_right _ List.mem_cons_self
          obtain ⟨lw, w0⟩ := row_nn (List.mem_filter.mp hw).1
          have l3' : d3.length ≤ 27 := by
            have := congrArg List.length es3
            rw [List.length_append, List.length_cons] at this
            omega
          have big : (one d3 (nxt d2 (fit c r m)) y).length < 1000000 := by
            have a := Mf.one_len y d3 (nxt d2 (fit c r m))
            have b := Mf.foldl_len (F := fit c r m) d2 []
            have e := Nat.mul_le_mul (show d2.length ≤ 30000 by omega) lF
            rw [List.length_nil, Nat.zero_add] at b
            unfold Mf.nxt at a
            have : 30000 * 27 + 27 < 1000000 := by decide
            unfold Mf.nxt
            omega
          refine try_row (pe := { P _ with nx := _, bk := _, ct := _ }) ly lw r1 hy y0 w0 big ?_
          refine ih3 _ ⟨d3 ++ [w], l3, some (.d (Ti w)), some (.d (Ti (Mf.sub y w))), keepD j11, keepD j12, by rw [List.append_assoc]; exact es3, rfl, ?_⟩
          have e1 : one (d3 ++ [w]) (nxt d2 (fit c r m)) y = add (one d3 (nxt d2 (fit c r m)) y) (Mf.sub y w) := by
            unfold Mf.one
            rw [List.foldl_append]
            rfl
          rw [e1]
      · rintro env ⟨d3, l3, j8, j10, j11, j12, es3, er3, rfl⟩
        cases l3 with
        | cons w l3 => cases er3
        | nil =>
          rw [List.append_nil] at es3
          subst es3
          show (P _).nx _
          rw [hP]
          refine ih _ ⟨d2 ++ [y], l2, j8, some (.d (Ti y)), j10, j11, j12, by rw [List.append_assoc]; exact es, rfl, ?_⟩
          have e1 : nxt (d2 ++ [y]) (fit c r m) = one (fit c r m) (nxt d2 (fit c r m)) y := by
            unfold Mf.nxt
            rw [List.foldl_append]
            rfl
          rw [e1]
  · rintro env ⟨d2, l2, j8, j9, j10, j11, j12, es, er, rfl⟩
    cases l2 with
    | cons y l2 => cases er
    | nil =>
      rw [List.append_nil] at es
      subst es
      exact q _ _ _ _ _
end Pr

namespace Pr
open PySem PySem.Spec PyProof.Rows L2 LamX Pd
open Ta (Tb lnD tbD wd lsum csum badN)
open Tq (Cn smD pl_Ti upTo0 comp_zip)
open Tr (Pk sat hvy Sml rest)
open Mf (subs stp rowsOf mn Rc nnB add one nxt fit known)
theorem pure_L_by_force (ds : List D) (Q : D → Prop) (Ex : Xc → Prop) (h : F_L_by_force ds Q Ex) : w_L_by_force (dEnds Q Ex) (startE N_L_by_force ds) := by
  obtain ⟨c, l, r, rfl, c0, c2, l3, r1, r3, hl, hr, q⟩ := h
  have r0 : ∀ x ∈ r, 0 ≤ x := fun x hx => (hr x hx).1
  have lR : (rowsOf c r).length ≤ 27 := by
    have a := Mf.rows_len c2 r [[]]
    have b : 3 ^ r.length ≤ 27 := Nat.le_trans (Nat.pow_le_pow_right (by decide) r3) (by decide)
    rw [List.length_singleton, Nat.one_mul] at a
    exact Nat.le_trans a b
  have kl : ∀ ls : List Int, ls.length ≤ 3 → (known c r ls).length ≤ 30000 := fun ls h => by
    have a := Mf.known_len (c := c) (r := r) (B := 27) (fun m => Nat.le_trans (List.length_filter_le _ _) lR) ls [r]
    have b : 27 ^ ls.length ≤ 27 ^ 3 := Nat.pow_le_pow_right (by decide) h
    rw [List.length_singleton, Nat.one_mul] at a
    exact Nat.le_trans a (Nat.le_trans b (by decide))
  have km : ∀ (ls : List Int), ∀ y ∈ known c r ls, y.length = r.length ∧ 0 ≤ r.sum - y.sum := fun ls y hy => by
    obtain ⟨h1, _⟩ := (Mf.known_mem (x := y) r0 ls y).mp hy
    exact ⟨(Mf.rc_fn h1).1, Mf.rc_nn h1⟩
  have lkn : ∀ L : List (List Int), (kn r L).length = L.length := fun L => by unfold kn; rw [List.length_map]
  refine ⟨Nat.le_of_ble_eq_true rfl, Nat.le_of_ble_eq_true rfl, ?_⟩
  try dsimp only
  refine rows_loop c0 c2 r3 hr (fun _ => rfl) fun j4 j7 j8 j11 => ?_
  refine ⟨r, rfl, ?_⟩
  have e0 : [(iK r, D.int 0)] = kn r (known c r []) := by
    show _ = [(iK r, D.int (r.sum - r.sum))]
    rw [Int.sub_self]
  rw [e0]
  try dsimp only
  show forW _ _ _ (l.map D.int) [some (.d (.int c)), some (.d (Ti l)), some (.d (Ti r)), some (.d (.lst ((rowsOf c r).map Ti))), j4, some (.d (.dit (kn r (known c r [])))), none, j7, j8, none, none, j11, none]
  refine forW_ind (fun rest env => ∃ (done left : List Int) (j6 j7 j8 j9 j10 j11 j12 : Option Sl), l = done ++ left ∧ rest = left.map D.int ∧ env = [some (.d (.int c)), some (.d (Ti l)), some (.d (Ti r)), some (.d (.lst ((rowsOf c r).map Ti))), j4, some (.d (.dit (kn r (known c r done)))), j6, j7, j8, j9, j10, j11, j12]) ?_ ?_ _ _ ⟨[], l, none, j7, j8, none, none, j11, none, rfl, rfl, rfl⟩
  · rintro x rest env ⟨done, left, j6, j7, j8, j9, j10, j11, j12, es, er, rfl⟩ ih
    cases left with
    | nil => cases er
    | cons m left =>
      cases er
      have ld : done.length ≤ 3 := by
        have := congrArg List.length es
        rw [List.length_append, List.length_cons] at this
        omega
      refine ⟨kn r (known c r done), rfl, by rw [lkn]; exact Nat.le_trans (kl done ld) (by decide), ?_⟩
      rw [kn_keys]
      try dsimp only
      refine line_loop (P := fun nx => { (_ : PEnds) with nx := nx, bk := _, ct := nx }) c2 r3 r1 (fun _ => rfl) (km done) (kl done ld) fun j8 j9 j10 j11 j12 => ?_
      refine ih _ ⟨done ++ [m], left, some (.d (.int m)), some (.d (.dit (kn r (nxt (known c r done) (fit c r m))))), j8, j9, j10, j11, j12, by rw [List.append_assoc]; exact es, rfl, ?_⟩
      have e1 : known c r (done ++ [m]) = nxt (known c r done) (fit c r m) := by
        unfold Mf.known
        rw [List.foldl_append]
        rfl
      rw [e1]
      rfl
  · rintro env ⟨done, left, j6, j7, j8, j9, j10, j11, j12, es, er, rfl⟩
    cases left with
    | cons m left => cases er
    | nil =>
      rw [List.append_nil] at es
      subst es
      refine ⟨kn r (known c r l), rfl, by rw [lkn]; exact Nat.le_trans (kl l l3) (by decide), ?_⟩
      rw [kn_keys]
      refine comp_all (fun z => [some (.d (.int c)), some (.d (Ti l)), some (.d (Ti r)), some (.d (.lst ((rowsOf c r).map Ti))), j4, some (.d (.dit (kn r (known c r l)))), j6, j7, j8, z, j10, j11, j12]) Ti (fun x => D.int (r.sum - x.sum)) (known c r l) _ [] (fun _ _ => rfl) (fun x hx K ex k => ⟨kn r (known c r l), x, .int (r.sum - x.sum), rfl, rfl, by rw [kn_look, if_pos hx], k⟩) fun z => ?_
      rw [List.nil_append]
      cases e : (known c r l).map fun x => r.sum - x.sum with
      | nil =>
        obtain ⟨x, k, h1, h2, _⟩ := Mf.attain c0 (dn_perm l) (dn_sorted l) (dn_perm r) (dn_sorted r) hl r0
        have hx := (Mf.known_mem (x := x) r0 l x).mpr ⟨h1, h2⟩
        rw [List.map_eq_nil_iff] at e
        rw [e] at hx
        cases hx
      | cons n ns =>
        refine ⟨n, ns, ?_, q _ (Mf.force c0 (dn_perm l) (dn_sorted l) (dn_perm r) (dn_sorted r) hl r0 (Mf.known_mem (x := []) r0 l) e)⟩
        rw [← e, List.map_map]
        rfl
theorem len_L_by_force (ds : List D) (Q : D → Prop) (Ex : Xc → Prop) (h : F_L_by_force ds Q Ex) : ds.length = 3 := by
  obtain ⟨c, l, r, rfl, _⟩ := h
  rfl
end Pr

namespace Pr
open PySem PySem.Spec PyProof.Rows L2 LamX Pd
open Ta (Tb lnD tbD wd lsum csum badN)
open Tq (Cn smD pl_Ti upTo0 comp_zip)
open Tr (Pk sat hvy Sml rest)
def t_right : WS := (sSeq (sSet 3 (wCall F_L_by_sets (wCons (wVar 1) (wCons (wVar 4) (wCons (wVar 5) wNil))))) (sSeq (sIf (wTest (xBin fNe (wCall F_most_units (wCons (wTup (wCons (W.ret (.str "table")) (wCons (wVar 1) (wCons (wVar 4) (wCons (wVar 5) wNil))))) wNil)) (wVar 3))) (sRet (W.ret (.bl false))) sNil) (sSeq (sIf (tAndP (wTest (wBin dLt (w1 dLen (wVar 5)) (W.ret (.int 4)))) (tAndP (wTest (wBin dLt (w1 dLen (wVar 4)) (W.ret (.int 4)))) (tAndP (wTest (wBin dLt (wVar 1) (W.ret (.int 3)))) (wTest (wBin dLt (x1 fMaxL (wVar 5)) (W.ret (.int 7))))))) (sIf (wTest (xBin fNe (wCall F_L_by_force (wCons (wVar 1) (wCons (wVar 4) (wCons (wVar 5) wNil)))) (wVar 3))) (sRet (W.ret (.bl false))) sNil) sNil) (sRet (xBin fEq (wCall F_fewest_taken (wCons (wTup (wCons (W.ret (.str "table")) (wCons (wVar 1) (wCons (wVar 4) (wCons (wVar 5) wNil))))) wNil)) (wBin dSub (xBin fAdd (x1 fSum (wVar 4)) (x1 fSum (wVar 5))) (xBin fMul (W.ret (.int 2)) (wVar 3))))))))
theorem right_tail {Q : D → Prop} {Ex : Xc → Prop} {p : Addr} {c : Int} {l r : List Int} {G : D} {j6 : Option Sl} (c1 : 1 ≤ c) (c9 : c ≤ 9) (l1 : 1 ≤ l.length) (l6 : l.length ≤ 6) (r1 : 1 ≤ r.length) (r6 : r.length ≤ 6) (hl : Sml 10000 l) (hr : Sml 10000 r) (q : Q (.bl true)) :
    t_right (dEnds Q Ex) [some (.d (.box p)), some (.d (.int c)), some (.d G), none, some (.d (Ti l)), some (.d (Ti r)), j6] := by
  have cl : Cn 12 l := ⟨l1, by omega, fun x hx => by have := hl x hx; omega⟩
  have cr : Cn 12 r := ⟨r1, by omega, fun x hx => by have := hr x hx; omega⟩
  have l0 : ∀ x ∈ l, 0 ≤ x := fun x hx => (hl x hx).1
  have r0 : ∀ x ∈ r, 0 ≤ x := fun x hx => (hr x hx).1
  have nE : ∀ v : Int, (!eqb (.int v) (.int v)) = false := fun v => by simp [eqb]
  have yE : ∀ v : Int, eqb (.int v) (.int v) = true := fun v => by simp [eqb]
  refine ⟨c, l, r, rfl, by omega, c9, l6, l0, r0, fun v mv => ?_⟩
  refine ⟨Nat.le_of_ble_eq_true rfl, c, l, r, rfl, c1, c9, cl, cr, fun v2 mv2 => ?_⟩
  obtain rfl := mv.uniq mv2
  refine ⟨rfl, ?_⟩
  rw [nE]
  refine br_ff rfl ?_
  dsimp only [sNil]
  have fin : sRet (xBin fEq (wCall F_fewest_taken (wCons (wTup (wCons (W.ret (.str "table")) (wCons (wVar 1) (wCons (wVar 4) (wCons (wVar 5) wNil))))) wNil)) (wBin dSub (xBin fAdd (x1 fSum (wVar 4)) (x1 fSum (wVar 5))) (xBin fMul (W.ret (.int 2)) (wVar 3)))) (dEnds Q Ex) [some (.d (.box p)), some (.d (.int c)), some (.d G), some (.d (.int v)), some (.d (Ti l)), some (.d (Ti r)), j6] := by
    refine ⟨Nat.le_of_ble_eq_true rfl, c, l, r, rfl, c1, c9, cl, cr, fun v3 mv3 => ?_⟩
    obtain rfl := mv.uniq mv3
    refine ⟨l, rfl, r, rfl, .inl (.inl (by decide)), rfl, ?_⟩
    rw [yE]
    exact q
  refine br_if (fun h1 => br_if (fun h2 => br_if (fun h3 => ?_) fun _ => br_ff rfl fin) fun _ => br_ff rfl fin) fun _ => br_ff rfl fin
  rw [List.length_map] at h1 h2
  obtain ⟨n, ns, e⟩ : ∃ n ns, r = n :: ns := by
    cases r with
    | nil => simp at r1
    | cons n ns => exact ⟨n, ns, rfl⟩
  obtain ⟨up, _⟩ := Mf.foldl_max ns n
  rw [← e] at up
  refine ⟨n, ns, by rw [e]; rfl, br_if (fun h4 => ?_) fun _ => fin⟩
  refine ⟨c, l, r, rfl, by omega, by omega, by omega, r1, by omega, l0, fun x hx => ⟨r0 x hx, by have := up x hx; omega⟩, fun v4 mv4 => ?_⟩
  obtain rfl := mv.uniq mv4
  refine ⟨rfl, ?_⟩
  rw [nE]
  exact br_ff rfl fin
theorem pure_L_right (ds : List D) (Q : D → Prop) (Ex : Xc → Prop) (h : F_L_right ds Q Ex) : w_L_right (dEnds Q Ex) (startE N_L_right ds) := by
  obtain ⟨p, rfl, q⟩ := h
  refine ⟨Nat.le_of_ble_eq_true rfl, p, _, _, rfl, rfl, by simp, Nat.le_of_ble_eq_true rfl, fun y hy => ?_⟩
  obtain ⟨c, rfl, c1, c9⟩ : ∃ c : Int, y = .int c ∧ 1 ≤ c ∧ c ≤ 9 := by
    have hy : y = .int 1 ∨ y = .int 2 ∨ y = .int 3 ∨ y = .int 9 := by simpa using hy
    rcases hy with rfl | rfl | rfl | rfl
    · exact ⟨1, rfl, by decide, by decide⟩
    · exact ⟨2, rfl, by decide, by decide⟩
    · exact ⟨3, rfl, by decide, by decide⟩
    · exact ⟨9, rfl, by decide, by decide⟩
  clear hy
  refine ⟨p, 6, rfl, by decide, by decide, fun a a0 a6 => ⟨p, 6, rfl, by decide, by decide, fun b b0 b6 => ⟨p, c, 1 + a, 1 + b, rfl, c1, c9, by omega, by omega, by omega, by omega, fun rs hl hm hx => ?_⟩⟩⟩
  have tb : Tb c rs := ⟨c1, c9, by omega, by omega, ⟨(1 + b).toNat, by omega, by omega, fun r hr => by have := hm r hr; omega⟩, hx⟩
  obtain ⟨w1, w12, hw⟩ := Ta.wd_of tb
  have ll : (lsum rs).length = rs.length := by simp [lsum]
  have lc : (csum rs).length = wd rs := by simp [csum, Ta.flip]
  have w6 : wd rs ≤ 6 := by
    cases rs with
    | nil => simp at hl; omega
    | cons r0 rs =>
      have := hm r0 List.mem_cons_self
      show r0.length ≤ 6
      omega
  refine ⟨c, rs, rfl, tb, c, rs, rfl, tb, p, lsum rs, csum rs, rfl, by omega, by omega, by omega, by omega, Tr.lsum_small tb, Tr.csum_small tb, fun l r e1 e2 sl sr => ⟨rfl, ?_⟩⟩
  dsimp only [gsCons, gNm, gsNil]
  refine ⟨p, 3, rfl, by decide, by decide, fun z z0 z3 => ⟨rfl, br_of (fun _ => ?_) fun _ => ?_⟩⟩
  · show compW _ _ _ _ _ (l.map D.int) [some (.d (.box p)), some (.d (.int c)), some (.d (lnD rs)), none, some (.d (Ti l)), some (.d (Ti r)), none] []
    refine compW_ind (fun rest2 env acc => ∃ (l2 : List Int) (s : Option Sl), env = [some (.d (.box p)), some (.d (.int c)), some (.d (lnD rs)), none, some (.d (Ti l)), some (.d (Ti r)), s] ∧ acc = l2.map D.int ∧ l2.length + rest2.length = l.length ∧ Sml 10000 l2) ?_ ?_ _ _ _ ⟨[], none, rfl, rfl, by simp, fun x hx => nomatch hx⟩
    · rintro y rest2 env acc ⟨l2, s, rfl, rfl, hl2, h0⟩ ih2
      rw [List.length_cons] at hl2
      refine br_tt rfl ⟨.inl (.inl (by decide)), ?_⟩
      refine ⟨.inl (.inl (by omega)), ?_⟩
      have er : ((r.map D.int).length : Int) = (r.length : Int) := by rw [List.length_map]
      have bd : 0 ≤ 2 * c * (r.length : Int) ∧ 2 * c * (r.length : Int) ≤ 2 * 9 * 6 := by
        have h1 : (r.length : Int) ≤ 6 := by omega
        have h2 : (0 : Int) ≤ (r.length : Int) := by omega
        constructor
        · exact Int.mul_nonneg (by omega) h2
        · exact Int.le_trans (Int.mul_le_mul_of_nonneg_right (show 2 * c ≤ 2 * 9 by omega) h2) (Int.mul_le_mul_of_nonneg_left h1 (by decide))
      refine ⟨p, 2 * c * (r.length : Int) + 2, by show [D.box p, D.int (2 * c * ((r.map D.int).length : Int) + 2)] = _; rw [er], by omega, ?_, fun u u0 u1 => ?_⟩
      · have : (2 * 9 * 6 + 2 : Int) ≤ 1000 := by decide
        first
          | omega
          | exact Int.le_trans (show 2 * c * (r.length : Int) + 2 ≤ 1000 by omega) (by decide)
      · exact ih2 _ _ ⟨l2 ++ [u], _, rfl, by rw [List.map_append]; rfl, by rw [List.length_append, List.length_singleton]; omega, fun x hx => by
          rcases List.mem_append.mp hx with hx | hx
          · exact h0 x hx
          · rw [List.mem_singleton.mp hx]
            omega⟩
    · rintro env acc ⟨l2, s, rfl, rfl, hl2, h0⟩
      simp only [List.length_nil, Nat.add_zero] at hl2
      exact right_tail c1 c9 (by omega) (by omega) (by omega) (by omega) h0 sr q
  · exact right_tail c1 c9 (by omega) (by omega) (by omega) (by omega) sl sr q
theorem len_L_right (ds : List D) (Q : D → Prop) (Ex : Xc → Prop) (h : F_L_right ds Q Ex) : ds.length = 1 := by
  obtain ⟨p, rfl, _⟩ := h
  rfl
theorem dn_is {l : List Int} (h : l.Pairwise fun a b => b ≤ a) : dn l = l := (dn_perm l).eq_of_pairwise (fun x y _ _ h1 h2 => Int.le_antisymm h2 h1) (dn_sorted l) h
theorem mn1 : Mn 1 [3, 1] [2, 2] 3 := by
  unfold Mn
  rw [dn_is (l := [3, 1]) (by decide)]
  refine ⟨⟨1, by decide, by decide⟩, fun k hk => ?_⟩
  have hk : k ≤ 2 := hk
  have : k = 0 ∨ k = 1 ∨ k = 2 := by omega
  rcases this with rfl | rfl | rfl <;> decide
theorem mn2 : Mn 2 [3, 1] [2, 2] 4 := by
  unfold Mn
  rw [dn_is (l := [3, 1]) (by decide)]
  refine ⟨⟨0, by decide, by decide⟩, fun k hk => ?_⟩
  have hk : k ≤ 2 := hk
  have : k = 0 ∨ k = 1 ∨ k = 2 := by omega
  rcases this with rfl | rfl | rfl <;> decide
theorem mn3 : Mn 1 [100] [5, 0] 1 := by
  unfold Mn
  rw [dn_is (l := [100]) (by decide)]
  refine ⟨⟨1, by decide, by decide⟩, fun k hk => ?_⟩
  have hk : k ≤ 1 := hk
  have : k = 0 ∨ k = 1 := by omega
  rcases this with rfl | rfl <;> decide
theorem pure_law (ds : List D) (Q : D → Prop) (Ex : Xc → Prop) (h : F_law ds Q Ex) : w_law (dEnds Q Ex) (startE N_law ds) := by
  obtain ⟨ns, rfl, hl, q⟩ := h
  have hm : ∃ m : Int, m = (if (if (ns.length : Int) < 8 then (ns.length : Int) else 8) > 1 then (if (ns.length : Int) < 8 then (ns.length : Int) else 8) else 1) ∧ 0 ≤ m ∧ m ≤ 8 := ⟨_, rfl, by split <;> split <;> omega, by split <;> split <;> omega⟩
  obtain ⟨m, em, m0, m8⟩ := hm
  refine ⟨?_, ?_, ?_⟩
  · show (if (if (ns.length : Int) < 8 then (ns.length : Int) else 8) > 1 then (if (ns.length : Int) < 8 then (ns.length : Int) else 8) else 1) ≤ 1000000
    omega
  · show -1000000 ≤ (if (if (ns.length : Int) < 8 then (ns.length : Int) else 8) > 1 then (if (ns.length : Int) < 8 then (ns.length : Int) else 8) else 1)
    omega
  show forW _ _ _ (Pd.upTo 0 (if (if (ns.length : Int) < 8 then (ns.length : Int) else 8) > 1 then (if (ns.length : Int) < 8 then (ns.length : Int) else 8) else 1)) _
  rw [← em]
  refine forW_ind (fun rest env => ∃ (i : Int) (j1 : Option Sl), 0 ≤ i ∧ i ≤ m ∧ rest = Pd.upTo i m ∧ env = [some (.d (.scr ns)), j1, none]) ?_ ?_ _ _ ⟨0, none, Int.le_refl _, m0, rfl, rfl⟩
  · rintro x rest env ⟨i, j1, i0, im, er, rfl⟩ ih
    have hlt : i < m := by
      apply Decidable.byContradiction
      intro z
      rw [upTo_nil (by omega)] at er
      cases er
    rw [upTo_cons hlt] at er
    cases er
    exact ⟨ns, i, rfl, i0, by omega, by omega, fun p => ⟨p, rfl, br_ff rfl (ih _ ⟨i + 1, _, by omega, by omega, rfl, rfl⟩)⟩⟩
  · rintro env ⟨i, j1, i0, im, er, rfl⟩
    clear em er
    have c31 : Cn 12 [3, 1] := ⟨by decide, by decide, by decide⟩
    have c22 : Cn 12 [2, 2] := ⟨by decide, by decide, by decide⟩
    have c100 : Cn 12 [100] := ⟨by decide, by decide, by decide⟩
    have c50 : Cn 12 [5, 0] := ⟨by decide, by decide, by decide⟩
    refine ⟨Nat.le_of_ble_eq_true rfl, Nat.le_of_ble_eq_true rfl, Nat.le_of_ble_eq_true rfl, 1, [3, 1], [2, 2], rfl, by decide, by decide, c31, c22, fun v1 h1 => ?_⟩
    obtain rfl := mn1.uniq h1
    refine ⟨Nat.le_of_ble_eq_true rfl, Nat.le_of_ble_eq_true rfl, Nat.le_of_ble_eq_true rfl, 1, [3, 1], [2, 2], rfl, by decide, by decide, c31, c22, fun v2 h2 => ?_⟩
    obtain rfl := mn1.uniq h2
    refine ⟨Nat.le_of_ble_eq_true rfl, ?_⟩
    refine ⟨Nat.le_of_ble_eq_true rfl, Nat.le_of_ble_eq_true rfl, Nat.le_of_ble_eq_true rfl, 2, [3, 1], [2, 2], rfl, by decide, by decide, c31, c22, fun v3 h3 => ?_⟩
    obtain rfl := mn2.uniq h3
    refine ⟨Nat.le_of_ble_eq_true rfl, Nat.le_of_ble_eq_true rfl, Nat.le_of_ble_eq_true rfl, 1, [100], [5, 0], rfl, by decide, by decide, c100, c50, fun v4 h4 => ?_⟩
    obtain rfl := mn3.uniq h4
    refine ⟨Nat.le_of_ble_eq_true rfl, Nat.le_of_ble_eq_true rfl, Nat.le_of_ble_eq_true rfl, by decide +kernel, ?_⟩
    exact q
theorem len_law (ds : List D) (Q : D → Prop) (Ex : Xc → Prop) (h : F_law ds Q Ex) : ds.length = 1 := by
  obtain ⟨ns, rfl, _⟩ := h
  rfl
theorem law_true (ns : List Int) (h : ns.length ≤ 63) : F_law [.scr ns] (fun v => v = .bl true) (fun _ => False) := ⟨ns, rfl, h, rfl⟩
end Pr

namespace Pr
open PySem PySem.Spec PyProof.Rows L2 LamX Pd Hd
structure Fx (P : Program) (w : World) (K : PySem.W.Frag) (mg : Str → Option Value) (base : Heap) (T : List (Addr × Str)) : Prop where
  d_is_integer : HasD K mg "is_integer" s_is_integer
  d_is_from : HasD K mg "is_from" s_is_from
  d_is_count : HasD K mg "is_count" s_is_count
  d_are_counts : HasD K mg "are_counts" s_are_counts
  d_is_cap : HasD K mg "is_cap" s_is_cap
  d_is_sums : HasD K mg "is_sums" s_is_sums
  d_require_table_sums : HasD K mg "require_table_sums" s_require_table_sums
  d_room : HasD K mg "room" s_room
  d_bound : HasD K mg "bound" s_bound
  d_heaviest : HasD K mg "heaviest" s_heaviest
  d_tight_lines : HasD K mg "tight_lines" s_tight_lines
  d_most_units : HasD K mg "most_units" s_most_units
  d_fewest_taken : HasD K mg "fewest_taken" s_fewest_taken
  d_L_ball : HasD K mg "_law_ball" s_L_ball
  d_L_pick : HasD K mg "_law_pick" s_L_pick
  d_L_grid : HasD K mg "_law_grid" s_L_grid
  d_L_near : HasD K mg "_law_near" s_L_near
  d_L_sets : HasD K mg "_law_sets" s_L_sets
  d_L_room : HasD K mg "_law_room" s_L_room
  d_L_by_sets : HasD K mg "_law_by_sets" s_L_by_sets
  d_L_line_sums : HasD K mg "_law_line_sums" s_L_line_sums
  d_L_column_sums : HasD K mg "_law_column_sums" s_L_column_sums
  d_L_by_force : HasD K mg "_law_by_force" s_L_by_force
  d_L_right : HasD K mg "_law_right" s_L_right
  d_L_urn : HasD K mg "_law_urn" s_L_urn
  d_law : HasD K mg "law" s_law
  gx_heaviest : mg "heaviest" = some (.ref (He.ga K "heaviest"))
  gx_tight_lines : mg "tight_lines" = some (.ref (He.ga K "tight_lines"))
  lm_heaviest : LamT K mg base T "heaviest"
  lm_tight_lines : LamT K mg base T "tight_lines"
  xc_InvalidSums : ExcC K mg "InvalidSums"
  b_abs : mg "abs" = none
  b_all : mg "all" = none
  b_bool : mg "bool" = none
  b_enumerate : mg "enumerate" = none
  b_int : mg "int" = none
  b_isinstance : mg "isinstance" = none
  b_len : mg "len" = none
  b_list : mg "list" = none
  b_max : mg "max" = none
  b_min : mg "min" = none
  b_range : mg "range" = none
  b_sorted : mg "sorted" = none
  b_str : mg "str" = none
  b_sum : mg "sum" = none
  b_tuple : mg "tuple" = none
  b_zip : mg "zip" = none
  c_MAX_CAP : ∃ t, mg "MAX_CAP" = some (.int 9 t)
  c_MAX_COUNT : ∃ t, mg "MAX_COUNT" = some (.int 999999999999999999999999999999 t)
  c_MAX_LINES : ∃ t, mg "MAX_LINES" = some (.int 12 t)
  c_MAX_PLACES : ∃ t, mg "MAX_PLACES" = some (.int 16 t)
  c_TABLE : ∃ t, mg "TABLE" = some (.str "table" t)
section
variable {P : Program} {w : World} {K : PySem.W.Frag} {mg : Str → Option Value} {base : Heap} {T : List (Addr × Str)}
theorem ok_is_integer (fx : Fx P w K mg base T) : DefOk P w K mg base T "is_integer" 1 ["value"] F_is_integer :=
  def_okX (st := s_is_integer) (N := N_is_integer) (k := 0) fx.d_is_integer ⟨rfl, rfl, rfl, by decide +kernel, rfl, by decide +kernel, by decide +kernel⟩ (fun f fd D => D.bindsN fun _ _ _ _ _ _ us hl => match us, hl with | [_], _ => rfl) len_is_integer
    fun cdv A outer s H E f B tk => ⟨w_is_integer, (jss_one (js_ret (je_and (je_isi isT_int fx.b_isinstance fx.b_int (by decide +kernel) (je_var 0)) (je_one (je_not (je_isi isT_bool fx.b_isinstance fx.b_bool (by decide +kernel) (je_var 0))))))), pure_is_integer⟩
theorem ok_is_from (fx : Fx P w K mg base T) : DefOk P w K mg base T "is_from" 2 ["value", "first", "last"] F_is_from :=
  def_okX (st := s_is_from) (N := N_is_from) (k := 1) fx.d_is_from ⟨rfl, rfl, rfl, by decide +kernel, rfl, by decide +kernel, by decide +kernel⟩ (fun f fd D => D.bindsN fun _ _ _ _ _ _ us hl => match us, hl with | [_, _, _], _ => rfl) len_is_from
    fun cdv A outer s H E f B tk => ⟨w_is_from, (jss_one (js_ret (je_and (je_call B (ok_is_integer fx) (ja_cons (je_var 0) ja_nil)) (je_one (je_chain opD_le opD_le (je_var 1) (je_var 0) (je_var 2)))))), pure_is_from⟩
theorem ok_is_count (fx : Fx P w K mg base T) : DefOk P w K mg base T "is_count" 3 ["value"] F_is_count :=
  def_okX (st := s_is_count) (N := N_is_count) (k := 2) fx.d_is_count ⟨rfl, rfl, rfl, by decide +kernel, rfl, by decide +kernel, by decide +kernel⟩ (fun f fd D => D.bindsN fun _ _ _ _ _ _ us hl => match us, hl with | [_], _ => rfl) len_is_count
    fun cdv A outer s H E f B tk => ⟨w_is_count, (jss_one (js_ret (je_call B (ok_is_from fx) (ja_cons (je_var 0) (ja_cons je_int (ja_cons (je_gint rfl fx.c_MAX_COUNT) ja_nil)))))), pure_is_count⟩
theorem ok_are_counts (fx : Fx P w K mg base T) : DefOk P w K mg base T "are_counts" 4 ["value", "most"] F_are_counts :=
  def_okX (st := s_are_counts) (N := N_are_counts) (k := 3) fx.d_are_counts ⟨rfl, rfl, rfl, by decide +kernel, rfl, by decide +kernel, by decide +kernel⟩ (fun f fd D => D.bindsN fun _ _ _ _ _ _ us hl => match us, hl with | [_, _], _ => rfl) len_are_counts
    fun cdv A outer s H E f B tk => ⟨w_are_counts, (jss_cons (js_if (jt_bool (jw_or (jt_not (jt_val (je_isi isT_tuple fx.b_isinstance fx.b_tuple (by decide +kernel) (je_var 0)))) (jw_or1 (jt_not (jt_chain opD_le opD_le je_int (je_b1 (cb_len) fx.b_len (by decide +kernel) (je_b (je_var 0))) (je_var 1)))))) (jss_one (js_ret je_bl)) jss_nil) (jss_one (js_ret (jx_b1 as_all (cb_all B.calm) fx.b_all (by decide +kernel) (je_b (jf_e (jf_comp [("one", 2)] B (ji_seq (je_var 0)) (blkOk_by (by kernel_rfl)) (fun s H C cl fp => (jg_name 2 B.nd)) (fun s H C cl fp B => jts_nil) (fun s H C cl fp B => (je_call B (ok_is_count fx) (ja_cons (je_var 2) ja_nil)))))))))), pure_are_counts⟩
theorem ok_is_cap (fx : Fx P w K mg base T) : DefOk P w K mg base T "is_cap" 3 ["value"] F_is_cap :=
  def_okX (st := s_is_cap) (N := N_is_cap) (k := 2) fx.d_is_cap ⟨rfl, rfl, rfl, by decide +kernel, rfl, by decide +kernel, by decide +kernel⟩ (fun f fd D => D.bindsN fun _ _ _ _ _ _ us hl => match us, hl with | [_], _ => rfl) len_is_cap
    fun cdv A outer s H E f B tk => ⟨w_is_cap, (jss_one (js_ret (je_call B (ok_is_from fx) (ja_cons (je_var 0) (ja_cons je_int (ja_cons (je_gint rfl fx.c_MAX_CAP) ja_nil)))))), pure_is_cap⟩
theorem ok_is_sums (fx : Fx P w K mg base T) : DefOk P w K mg base T "is_sums" 5 ["value"] F_is_sums :=
  def_okX (st := s_is_sums) (N := N_is_sums) (k := 4) fx.d_is_sums ⟨rfl, rfl, rfl, by decide +kernel, rfl, by decide +kernel, by decide +kernel⟩ (fun f fd D => D.bindsN fun _ _ _ _ _ _ us hl => match us, hl with | [_], _ => rfl) len_is_sums
    fun cdv A outer s H E f B tk => ⟨w_is_sums, (jss_cons (js_if (jt_bool (jw_or (jt_not (jt_val (je_isi isT_tuple fx.b_isinstance fx.b_tuple (by decide +kernel) (je_var 0)))) (jw_or (jt_cmp opD_lt (je_b1 (cb_len) fx.b_len (by decide +kernel) (je_b (je_var 0))) je_int rfl) (jw_or1 (jt_not (jt_val (je_isi isT_str fx.b_isinstance fx.b_str (by decide +kernel) (jx_ix (je_var 0) je_int fun _ _ => rfl)))))))) (jss_one (js_ret je_bl)) jss_nil) (jss_cons (js_match (je_var 0) (jc_seq B B.u64 (.cons .s (.cons (.v rfl (by first | exact Or.inl rfl | exact Or.inr rfl) (by first | exact .inl rfl | exact .inr rfl)) (.cons (.v rfl (by first | exact Or.inl rfl | exact Or.inr rfl) (by first | exact .inl rfl | exact .inr rfl)) (.cons (.v rfl (by first | exact Or.inl rfl | exact Or.inr rfl) (by first | exact .inl rfl | exact .inr rfl)) .nil)))) (jss_one (js_ret (je_and (je_call B (ok_is_cap fx) (ja_cons (je_var 1) ja_nil)) (je_and (je_call B (ok_are_counts fx) (ja_cons (je_var 2) (ja_cons (je_gint rfl fx.c_MAX_LINES) ja_nil))) (je_one (je_call B (ok_are_counts fx) (ja_cons (je_var 3) (ja_cons (je_gint rfl fx.c_MAX_LINES) ja_nil)))))))) (jc_seq B B.u64 (.cons .s (.cons (.v rfl (by first | exact Or.inl rfl | exact Or.inr rfl) (by first | exact .inl rfl | exact .inr rfl)) .nil)) (jss_one (js_ret (je_call B (ok_are_counts fx) (ja_cons (je_var 4) (ja_cons (je_gint rfl fx.c_MAX_PLACES) ja_nil))))) (jc_seq B B.u64 (.cons .s (.cons (.v rfl (by first | exact Or.inl rfl | exact Or.inr rfl) (by first | exact .inl rfl | exact .inr rfl)) .nil)) (jss_one (js_ret (je_call B (ok_are_counts fx) (ja_cons (je_var 5) (ja_cons (je_gint rfl fx.c_MAX_PLACES) ja_nil))))) jc_nil)))) (jss_one (js_ret je_bl)))), pure_is_sums⟩
theorem ok_require_table_sums (fx : Fx P w K mg base T) : DefOk P w K mg base T "require_table_sums" 6 ["sums"] F_require_table_sums :=
  def_okX (st := s_require_table_sums) (N := N_require_table_sums) (k := 5) fx.d_require_table_sums ⟨rfl, rfl, rfl, by decide +kernel, rfl, by decide +kernel, by decide +kernel⟩ (fun f fd D => D.bindsN fun _ _ _ _ _ _ us hl => match us, hl with | [_], _ => rfl) len_require_table_sums
    fun cdv A outer s H E f B tk => ⟨w_require_table_sums, (jss_one (js_if (jt_bool (jw_or (jt_not (jt_val (je_call B (ok_is_sums fx) (ja_cons (je_var 0) ja_nil)))) (jw_or1 (jtx_cmp as_ne (opD_ne B.u64) (jx_ix (je_var 0) je_int fun _ _ => rfl) (je_gstr rfl fx.c_TABLE) rfl)))) (jss_one (js_raise B tk fx.xc_InvalidSums)) jss_nil)), pure_require_table_sums⟩
theorem ok_room (fx : Fx P w K mg base T) : DefOk P w K mg base T "room" 1 ["cap", "many", "columns"] F_room :=
  def_okX (st := s_room) (N := N_room) (k := 0) fx.d_room ⟨rfl, rfl, rfl, by decide +kernel, rfl, by decide +kernel, by decide +kernel⟩ (fun f fd D => D.bindsN fun _ _ _ _ _ _ us hl => match us, hl with | [_, _, _], _ => rfl) len_room
    fun cdv A outer s H E f B tk => ⟨w_room, (jss_one (js_ret (jx_b1 as_sum (cb_sum B.calm) fx.b_sum (by decide +kernel) (je_b (jf_e (jf_comp [("column", 3)] B (ji_seq (je_var 2)) (blkOk_by (by kernel_rfl)) (fun s H C cl fp => (jg_name 3 B.nd)) (fun s H C cl fp B => jts_nil) (fun s H C cl fp B => (je_bN (cn_min2 B.calm) fx.b_min (by decide +kernel) (ja_cons (jx_bin as_mul opD_mul (je_var 0) (je_var 1)) (ja_cons (je_var 3) ja_nil)))))))))), pure_room⟩
theorem ok_bound (fx : Fx P w K mg base T) : DefOk P w K mg base T "bound" 2 ["cap", "lines", "columns", "some"] F_bound :=
  def_okX (st := s_bound) (N := N_bound) (k := 1) fx.d_bound ⟨rfl, rfl, rfl, by decide +kernel, rfl, by decide +kernel, by decide +kernel⟩ (fun f fd D => D.bindsN fun _ _ _ _ _ _ us hl => match us, hl with | [_, _, _, _], _ => rfl) len_bound
    fun cdv A outer s H E f B tk => ⟨w_bound, (jss_cons (js_setCompD 4 [("line", 5), ("entry", 6)] B (ji_enum rfl fx.b_enumerate (je_var 1)) (blkOk_by (by kernel_rfl)) (fun s H C cl fp => (jg_tup B.calm (jgs_cons (jg_name 5 B.nd) (jgs_cons (jg_name 6 B.nd) jgs_nil)))) (fun s H C cl fp B => (jts_one (jtx_cmp as_notIn (opD_notIn B.u65) (je_var 5) (je_var 3) rfl))) (fun s H C cl fp B => (je_var 6)) (sw_true rfl rfl rfl (by kernel_rfl))) (jss_one (js_ret (jx_bin as_add opD_add (jx_b1 as_sum (cb_sum B.calm) fx.b_sum (by decide +kernel) (je_b (je_var 4))) (je_call B (ok_room fx) (ja_cons (je_var 0) (ja_cons (je_b1 (cb_len) fx.b_len (by decide +kernel) (je_b (je_var 3))) (ja_cons (je_var 2) ja_nil)))))))), pure_bound⟩
theorem ok_heaviest (fx : Fx P w K mg base T) : DefOk P w K mg base T "heaviest" 3 ["row", "size"] F_heaviest :=
  def_okC (st := s_heaviest) (N := N_heaviest) (k := 2) fx.d_heaviest fx.gx_heaviest ⟨rfl, rfl, rfl, by decide +kernel, rfl, by decide +kernel, by decide +kernel⟩ (fun f fd D => D.bindsN fun _ _ _ _ _ _ us hl => match us, hl with | [_, _], _ => rfl) len_heaviest
    fun A outer s H E B tk => ⟨w_heaviest, (jss_cons (js_set 2 B (jf_e (jf_sortKey B fx.lm_heaviest fx.b_sorted fx.b_range (je_b1 (cb_len) fx.b_len (by decide +kernel) (je_b (je_var 0))) (kscope_by (by kernel_rfl)) (.cons (.neg (j := 0) rfl rfl rfl rfl) (fun _ => rfl) (.cons .self (fun _ => rfl) .nil))))) (jss_one (js_ret (je_t1 cb_tuple fx.b_tuple (by decide +kernel) (je_b (jf_e (jf_sorted B fx.b_sorted (je_b (je_slice (je_var 2) jo_none (jo_some (je_var 1))))))))))), pure_heaviest⟩
theorem ok_tight_lines (fx : Fx P w K mg base T) : DefOk P w K mg base T "tight_lines" 5 ["cap", "lines", "columns"] F_tight_lines :=
  def_okC (st := s_tight_lines) (N := N_tight_lines) (k := 4) fx.d_tight_lines fx.gx_tight_lines ⟨rfl, rfl, rfl, by decide +kernel, rfl, by decide +kernel, by decide +kernel⟩ (fun f fd D => D.bindsN fun _ _ _ _ _ _ us hl => match us, hl with | [_, _, _], _ => rfl) len_tight_lines
    fun A outer s H E B tk => ⟨w_tight_lines, (jss_cons (js_setCompD 3 [("size", 4)] B (ji_range1 rfl fx.b_range (jx_bin as_add opD_add (je_b1 (cb_len) fx.b_len (by decide +kernel) (je_b (je_var 1))) je_int)) (blkOk_by (by kernel_rfl)) (fun s H C cl fp => (jg_name 4 B.nd)) (fun s H C cl fp B => jts_nil) (fun s H C cl fp B => (je_call B (ok_heaviest fx) (ja_cons (je_var 1) (ja_cons (je_var 4) ja_nil)))) (sw_true rfl rfl rfl (by kernel_rfl))) (jss_one (js_ret (je_minKeyE (kb := 2) (fr := ["cap", "lines", "columns"]) (js := [0, 1, 2]) B fx.lm_tight_lines fx.b_min (je_var 3) (kscope_by (by kernel_rfl)) (NdefX.nscope_by (by kernel_rfl)) rfl fun f c A outer s H B => (je_call B (ok_bound fx) (ja_cons (je_var 1) (ja_cons (je_var 2) (ja_cons (je_var 3) (ja_cons (je_var 0) ja_nil))))))))), pure_tight_lines⟩
theorem ok_most_units (fx : Fx P w K mg base T) : DefOk P w K mg base T "most_units" 7 ["sums"] F_most_units :=
  def_okX (st := s_most_units) (N := N_most_units) (k := 6) fx.d_most_units ⟨rfl, rfl, rfl, by decide +kernel, rfl, by decide +kernel, by decide +kernel⟩ (fun f fd D => D.bindsN fun _ _ _ _ _ _ us hl => match us, hl with | [_], _ => rfl) len_most_units
    fun cdv A outer s H E f B tk => ⟨w_most_units, (jss_cons (js_expr (je_call B (ok_require_table_sums fx) (ja_cons (je_var 0) ja_nil))) (jss_cons (js_asg (us := [1, 2, 3, 4]) (je_var 0) (jg_tup B.calm (jgs_cons (jg_name 1 B.nd) (jgs_cons (jg_name 2 B.nd) (jgs_cons (jg_name 3 B.nd) (jgs_cons (jg_name 4 B.nd) jgs_nil)))))) (jss_one (js_ret (je_call B (ok_bound fx) (ja_cons (je_var 2) (ja_cons (je_var 3) (ja_cons (je_var 4) (ja_cons (je_call B (ok_tight_lines fx) (ja_cons (je_var 2) (ja_cons (je_var 3) (ja_cons (je_var 4) ja_nil)))) ja_nil))))))))), pure_most_units⟩
theorem ok_fewest_taken (fx : Fx P w K mg base T) : DefOk P w K mg base T "fewest_taken" 8 ["sums"] F_fewest_taken :=
  def_okX (st := s_fewest_taken) (N := N_fewest_taken) (k := 7) fx.d_fewest_taken ⟨rfl, rfl, rfl, by decide +kernel, rfl, by decide +kernel, by decide +kernel⟩ (fun f fd D => D.bindsN fun _ _ _ _ _ _ us hl => match us, hl with | [_], _ => rfl) len_fewest_taken
    fun cdv A outer s H E f B tk => ⟨w_fewest_taken, (jss_cons (js_expr (je_call B (ok_require_table_sums fx) (ja_cons (je_var 0) ja_nil))) (jss_one (js_ret (je_bin opD_sub (jx_bin as_add opD_add (jx_b1 as_sum (cb_sum B.calm) fx.b_sum (by decide +kernel) (je_b (jx_ix (je_var 0) je_int fun _ _ => rfl))) (jx_b1 as_sum (cb_sum B.calm) fx.b_sum (by decide +kernel) (je_b (jx_ix (je_var 0) je_int fun _ _ => rfl)))) (jx_bin as_mul opD_mul je_int (je_call B (ok_most_units fx) (ja_cons (je_var 0) ja_nil))))))), pure_fewest_taken⟩
theorem ok_L_ball (fx : Fx P w K mg base T) : DefOk P w K mg base T "_law_ball" 1 ["_law_urn_here", "_law_total"] F_L_ball :=
  def_okX (st := s_L_ball) (N := N_L_ball) (k := 0) fx.d_L_ball ⟨rfl, rfl, rfl, by decide +kernel, rfl, by decide +kernel, by decide +kernel⟩ (fun f fd D => D.bindsN fun _ _ _ _ _ _ us hl => match us, hl with | [_, _], _ => rfl) len_L_ball
    fun cdv A outer s H E f B tk => ⟨w_L_ball, (jss_cons (js_if (jt_cmp opD_gt (je_boxGet (je_var 0) je_int fun _ _ => rfl) je_int rfl) (jss_cons (js_set 4 B (jx_bin as_mod opD_mod (je_t1 cb_int fx.b_int (by decide +kernel) (je_b (je_boxGet (je_var 0) je_int fun _ _ => rfl))) (je_var 1))) (jss_cons (js_boxSet 0 (jx_bin as_div opD_div (je_boxGet (je_var 0) je_int fun _ _ => rfl) (je_var 1))) (jss_one (js_ret (je_var 4))))) jss_nil) (jss_cons (js_boxSet 0 (jx_bin as_add opD_add (je_boxGet (je_var 0) je_int fun _ _ => rfl) je_int)) (jss_cons (js_set 2 B (jx_bin as_mod opD_mod (je_t1 cb_int fx.b_int (by decide +kernel) (je_b (jx_bin as_add opD_add (je_boxGet (je_var 0) je_int fun _ _ => rfl) (jx_bin as_mul opD_mul je_int (je_boxGet (je_var 0) je_int fun _ _ => rfl))))) je_int)) (jss_cons (js_set 3 B (jx_bin as_add opD_add (jx_bin as_mul opD_mul (jx_bin as_mod opD_mod (je_t1 cb_int fx.b_int (by decide +kernel) (je_b (jx_bin as_mul opD_mul (je_var 2) (je_var 2)))) je_int) (je_var 2)) (jx_bin as_mul opD_mul je_int (je_boxGet (je_var 0) je_int fun _ _ => rfl)))) (jss_one (js_ret (jx_bin as_mod opD_mod (je_t1 cb_int fx.b_int (by decide +kernel) (je_b (jx_bin as_div opD_div (jx_bin as_mod opD_mod (je_t1 cb_int fx.b_int (by decide +kernel) (je_b (je_var 3))) je_int) je_int))) (je_var 1)))))))), pure_L_ball⟩
theorem ok_L_pick (fx : Fx P w K mg base T) : DefOk P w K mg base T "_law_pick" 2 ["_law_urn_here", "_law_items"] F_L_pick :=
  def_okX (st := s_L_pick) (N := N_L_pick) (k := 1) fx.d_L_pick ⟨rfl, rfl, rfl, by decide +kernel, rfl, by decide +kernel, by decide +kernel⟩ (fun f fd D => D.bindsN fun _ _ _ _ _ _ us hl => match us, hl with | [_, _], _ => rfl) len_L_pick
    fun cdv A outer s H E f B tk => ⟨w_L_pick, (jss_one (js_ret (jx_ix (je_var 1) (je_call B (ok_L_ball fx) (ja_cons (je_var 0) (ja_cons (je_b1 (cb_len) fx.b_len (by decide +kernel) (je_b (je_var 1))) ja_nil))) fun _ _ => rfl))), pure_L_pick⟩
theorem ok_L_grid (fx : Fx P w K mg base T) : DefOk P w K mg base T "_law_grid" 3 ["_law_urn_here", "_law_cap", "_law_lines", "_law_columns"] F_L_grid :=
  def_okX (st := s_L_grid) (N := N_L_grid) (k := 2) fx.d_L_grid ⟨rfl, rfl, rfl, by decide +kernel, rfl, by decide +kernel, by decide +kernel⟩ (fun f fd D => D.bindsN fun _ _ _ _ _ _ us hl => match us, hl with | [_, _, _, _], _ => rfl) len_L_grid
    fun cdv A outer s H E f B tk => ⟨w_L_grid, (jss_cons (js_set 4 B (je_call B (ok_L_pick fx) (ja_cons (je_var 0) (ja_cons (jf_e (jf_lst (ja_cons (jf_e (jf_listRg B fx.b_list (jr_1 fx.b_range (jx_bin as_add opD_add (je_var 1) je_int)))) (ja_cons (jf_e (jf_lst (ja_cons je_int (ja_cons (je_var 1) ja_nil)))) (ja_cons (jf_e (jf_lst (ja_cons je_int (ja_cons je_int (ja_cons (je_var 1) (ja_cons (je_call B (ok_L_ball fx) (ja_cons (je_var 0) (ja_cons (jx_bin as_add opD_add (je_var 1) je_int) ja_nil))) ja_nil)))))) ja_nil))))) ja_nil)))) (jss_cons (js_setOwn 5 B (jf_lst ja_nil)) (jss_cons (js_for B (us := [6]) (ji_range1 rfl fx.b_range (je_var 2)) (jg_name 6 B.nd) (jss_one (js_expr (je_append 5 (je_t1 cb_tuple fx.b_tuple (by decide +kernel) (je_b (jf_e (jf_comp [("_law_column", 7)] B (ji_range1 rfl fx.b_range (je_var 3)) (blkOk_by (by kernel_rfl)) (fun s H C cl fp => (jg_name 7 B.nd)) (fun s H C cl fp B => jts_nil) (fun s H C cl fp B => (je_call B (ok_L_pick fx) (ja_cons (je_var 0) (ja_cons (je_var 4) ja_nil)))))))))))) (jss_one (js_ret (je_t1 cb_tuple fx.b_tuple (by decide +kernel) (jb_own 5))))))), pure_L_grid⟩
theorem ok_L_near (fx : Fx P w K mg base T) : DefOk P w K mg base T "_law_near" 3 ["_law_urn_here", "_law_lines", "_law_columns"] F_L_near :=
  def_okX (st := s_L_near) (N := N_L_near) (k := 2) fx.d_L_near ⟨rfl, rfl, rfl, by decide +kernel, rfl, by decide +kernel, by decide +kernel⟩ (fun f fd D => D.bindsN fun _ _ _ _ _ _ us hl => match us, hl with | [_, _, _], _ => rfl) len_L_near
    fun cdv A outer s H E f B tk => ⟨w_L_near, (jss_cons (js_set 3 B (jf_e (jf_lst (ja_cons (je_cell 9 (jf_t1 cf_list fx.b_list (by decide +kernel) (je_b (je_var 1)))) (ja_cons (je_cell 9 (jf_t1 cf_list fx.b_list (by decide +kernel) (je_b (je_var 2)))) ja_nil))))) (jss_cons (js_for B (us := [4]) (ji_range1 rfl fx.b_range (je_call B (ok_L_ball fx) (ja_cons (je_var 0) (ja_cons je_int ja_nil)))) (jg_name 4 B.nd) (jss_cons (js_set 5 B (je_call B (ok_L_pick fx) (ja_cons (je_var 0) (ja_cons (je_var 3) ja_nil)))) (jss_cons (js_parM2 7 8 B (jm_e (je_call B (ok_L_ball fx) (ja_cons (je_var 0) (ja_cons (je_b1 (cb_len) fx.b_len (by decide +kernel) (jb_cel 9 (je_var 5))) ja_nil))) (jm_e (je_call B (ok_L_ball fx) (ja_cons (je_var 0) (ja_cons (je_b1 (cb_len) fx.b_len (by decide +kernel) (jb_cel 9 (je_var 5))) ja_nil))) jm_nil))) (jss_cons (js_set 6 B (je_bN (cn_min2 B.calm) fx.b_min (by decide +kernel) (ja_cons (je_ixC 9 (je_var 5) (je_var 7) fun _ _ => rfl) (ja_cons (jx_bin as_add opD_add je_int (je_call B (ok_L_ball fx) (ja_cons (je_var 0) (ja_cons je_int ja_nil)))) ja_nil)))) (jss_cons (js_setC 9 (je_var 5) (je_var 7) (je_bin opD_sub (je_ixC 9 (je_var 5) (je_var 7) fun _ _ => rfl) (je_var 6))) (jss_one (js_if (jt_cmp opD_gt (je_call B (ok_L_ball fx) (ja_cons (je_var 0) (ja_cons je_int ja_nil))) je_int rfl) (jss_one (js_setC 9 (je_var 5) (je_var 8) (jx_bin as_add opD_add (je_ixC 9 (je_var 5) (je_var 8) fun _ _ => rfl) (je_var 6)))) jss_nil))))))) (jss_one (js_ret (je_tup (ja_cons (je_t1 cb_tuple fx.b_tuple (by decide +kernel) (jb_cel 9 (jx_ix (je_var 3) je_int fun _ _ => rfl))) (ja_cons (je_t1 cb_tuple fx.b_tuple (by decide +kernel) (jb_cel 9 (jx_ix (je_var 3) je_int fun _ _ => rfl))) ja_nil))))))), pure_L_near⟩
theorem ok_L_sets (fx : Fx P w K mg base T) : DefOk P w K mg base T "_law_sets" 1 ["_law_many"] F_L_sets :=
  def_okX (st := s_L_sets) (N := N_L_sets) (k := 0) fx.d_L_sets ⟨rfl, rfl, rfl, by decide +kernel, rfl, by decide +kernel, by decide +kernel⟩ (fun f fd D => D.bindsN fun _ _ _ _ _ _ us hl => match us, hl with | [_], _ => rfl) len_L_sets
    fun cdv A outer s H E f B tk => ⟨w_L_sets, (jss_cons (js_set 1 B (jf_e (jf_lst (ja_cons (je_tup ja_nil) ja_nil)))) (jss_cons (js_for B (us := [2]) (ji_range1 rfl fx.b_range (je_var 0)) (jg_name 2 B.nd) (jss_one (js_set 1 B (jx_bin as_add opD_add (je_var 1) (jf_e (jf_comp [("_law_some", 3)] B (ji_seq (je_var 1)) (blkOk_by (by kernel_rfl)) (fun s H C cl fp => (jg_name 3 B.nd)) (fun s H C cl fp B => jts_nil) (fun s H C cl fp B => (jx_bin as_add opD_add (je_var 3) (je_tup (ja_cons (je_var 2) ja_nil)))))))))) (jss_one (js_ret (je_var 1))))), pure_L_sets⟩
theorem ok_L_room (fx : Fx P w K mg base T) : DefOk P w K mg base T "_law_room" 1 ["_law_cap", "_law_many", "_law_sums"] F_L_room :=
  def_okX (st := s_L_room) (N := N_L_room) (k := 0) fx.d_L_room ⟨rfl, rfl, rfl, by decide +kernel, rfl, by decide +kernel, by decide +kernel⟩ (fun f fd D => D.bindsN fun _ _ _ _ _ _ us hl => match us, hl with | [_, _, _], _ => rfl) len_L_room
    fun cdv A outer s H E f B tk => ⟨w_L_room, (jss_one (js_ret (jx_b1 as_sum (cb_sum B.calm) fx.b_sum (by decide +kernel) (je_b (jf_e (jf_comp [("_law_one", 3)] B (ji_seq (je_var 2)) (blkOk_by (by kernel_rfl)) (fun s H C cl fp => (jg_name 3 B.nd)) (fun s H C cl fp B => jts_nil) (fun s H C cl fp B => (je_bN (cn_min2 B.calm) fx.b_min (by decide +kernel) (ja_cons (jx_bin as_mul opD_mul (je_var 0) (je_var 1)) (ja_cons (je_var 3) ja_nil)))))))))), pure_L_room⟩
theorem ok_L_by_sets (fx : Fx P w K mg base T) : DefOk P w K mg base T "_law_by_sets" 2 ["_law_cap", "_law_lines", "_law_columns"] F_L_by_sets :=
  def_okX (st := s_L_by_sets) (N := N_L_by_sets) (k := 1) fx.d_L_by_sets ⟨rfl, rfl, rfl, by decide +kernel, rfl, by decide +kernel, by decide +kernel⟩ (fun f fd D => D.bindsN fun _ _ _ _ _ _ us hl => match us, hl with | [_, _, _], _ => rfl) len_L_by_sets
    fun cdv A outer s H E f B tk => ⟨w_L_by_sets, (jss_cons (js_setOwn 3 B (jf_lst ja_nil)) (jss_cons (js_for B (us := [4]) (ji_seq (je_call B (ok_L_sets fx) (ja_cons (je_b1 (cb_len) fx.b_len (by decide +kernel) (je_b (je_var 1))) ja_nil))) (jg_name 4 B.nd) (jss_cons (js_setCompD 5 [("_law_line", 6), ("_law_one", 7)] B (ji_enum rfl fx.b_enumerate (je_var 1)) (blkOk_by (by kernel_rfl)) (fun s H C cl fp => (jg_tup B.calm (jgs_cons (jg_name 6 B.nd) (jgs_cons (jg_name 7 B.nd) jgs_nil)))) (fun s H C cl fp B => (jts_one (jtx_cmp as_notIn (opD_notIn B.u65) (je_var 6) (je_var 4) rfl))) (fun s H C cl fp B => (je_var 7)) (sw_true rfl rfl rfl (by kernel_rfl))) (jss_one (js_expr (je_append 3 (jx_bin as_add opD_add (jx_b1 as_sum (cb_sum B.calm) fx.b_sum (by decide +kernel) (je_b (je_var 5))) (je_call B (ok_L_room fx) (ja_cons (je_var 0) (ja_cons (je_b1 (cb_len) fx.b_len (by decide +kernel) (je_b (je_var 4))) (ja_cons (je_var 2) ja_nil)))))))))) (jss_one (js_ret (jx_b1 as_best (cb_minL B) fx.b_min (by decide +kernel) (jb_own 3)))))), pure_L_by_sets⟩
theorem ok_L_line_sums (fx : Fx P w K mg base T) : DefOk P w K mg base T "_law_line_sums" 1 ["_law_lines"] F_L_line_sums :=
  def_okX (st := s_L_line_sums) (N := N_L_line_sums) (k := 0) fx.d_L_line_sums ⟨rfl, rfl, rfl, by decide +kernel, rfl, by decide +kernel, by decide +kernel⟩ (fun f fd D => D.bindsN fun _ _ _ _ _ _ us hl => match us, hl with | [_], _ => rfl) len_L_line_sums
    fun cdv A outer s H E f B tk => ⟨w_L_line_sums, (jss_one (js_ret (je_t1 cb_tuple fx.b_tuple (by decide +kernel) (je_b (jf_e (jf_comp [("_law_line", 1)] B (ji_seq (je_var 0)) (blkOk_by (by kernel_rfl)) (fun s H C cl fp => (jg_name 1 B.nd)) (fun s H C cl fp B => jts_nil) (fun s H C cl fp B => (jx_b1 as_sum (cb_sum B.calm) fx.b_sum (by decide +kernel) (je_b (je_var 1)))))))))), pure_L_line_sums⟩
theorem ok_L_column_sums (fx : Fx P w K mg base T) : DefOk P w K mg base T "_law_column_sums" 1 ["_law_lines"] F_L_column_sums :=
  def_okX (st := s_L_column_sums) (N := N_L_column_sums) (k := 0) fx.d_L_column_sums ⟨rfl, rfl, rfl, by decide +kernel, rfl, by decide +kernel, by decide +kernel⟩ (fun f fd D => D.bindsN fun _ _ _ _ _ _ us hl => match us, hl with | [_], _ => rfl) len_L_column_sums
    fun cdv A outer s H E f B tk => ⟨w_L_column_sums, (jss_one (js_ret (je_t1 cb_tuple fx.b_tuple (by decide +kernel) (je_b (jf_e (jf_comp [("_law_column", 1)] B (ji_range1 rfl fx.b_range (je_b1 (cb_len) fx.b_len (by decide +kernel) (je_b (jx_ix (je_var 0) je_int fun _ _ => rfl)))) (blkOk_by (by kernel_rfl)) (fun s H C cl fp => (jg_name 1 B.nd)) (fun s H C cl fp B => jts_nil) (fun s H C cl fp B => (jx_b1 as_sum (cb_sum B.calm) fx.b_sum (by decide +kernel) (je_b (jf_e (jf_comp [("_law_line", 2)] B (ji_seq (je_var 0)) (blkOk_by (by kernel_rfl)) (fun s H C cl fp => (jg_name 2 B.nd)) (fun s H C cl fp B => jts_nil) (fun s H C cl fp B => (jx_ix (je_var 2) (je_var 1) fun _ _ => rfl))))))))))))), pure_L_column_sums⟩
theorem ok_L_by_force (fx : Fx P w K mg base T) : DefOk P w K mg base T "_law_by_force" 1 ["_law_cap", "_law_lines", "_law_columns"] F_L_by_force :=
  def_okX (st := s_L_by_force) (N := N_L_by_force) (k := 0) fx.d_L_by_force ⟨rfl, rfl, rfl, by decide +kernel, rfl, by decide +kernel, by decide +kernel⟩ (fun f fd D => D.bindsN fun _ _ _ _ _ _ us hl => match us, hl with | [_, _, _], _ => rfl) len_L_by_force
    fun cdv A outer s H E f B tk => ⟨w_L_by_force, (jss_cons (js_set 3 B (jf_e (jf_lst (ja_cons (je_tup ja_nil) ja_nil)))) (jss_cons (js_for B (us := [4]) (ji_seq (je_var 2)) (jg_name 4 B.nd) (jss_cons (js_setOwn 7 B (jf_lst ja_nil)) (jss_cons (js_for B (us := [8]) (ji_seq (je_var 3)) (jg_name 8 B.nd) (jss_one (js_expr (je_extend 7 (je_b (jf_e (jf_comp [("_law_one", 11)] B (ji_range1 rfl fx.b_range (jx_bin as_add opD_add (je_bN (cn_min2 B.calm) fx.b_min (by decide +kernel) (ja_cons (je_var 0) (ja_cons (je_var 4) ja_nil))) je_int)) (blkOk_by (by kernel_rfl)) (fun s H C cl fp => (jg_name 11 B.nd)) (fun s H C cl fp B => jts_nil) (fun s H C cl fp B => (jx_bin as_add opD_add (je_var 8) (je_tup (ja_cons (je_var 11) ja_nil))))))))))) (jss_one (js_set 3 B (je_frz 7)))))) (jss_cons (js_set 5 B (je_ditOne 2 B)) (jss_cons (js_for B (us := [6]) (ji_seq (je_var 1)) (jg_name 6 B.nd) (jss_cons (js_newDct 7 B) (jss_cons (js_for B (us := [9]) (ji_dit (je_var 5)) (jg_name 9 B.nd) (jss_one (js_for B (us := [8]) (ji_seq (jf_e (jf_comp [("_law_row", 8)] B (ji_seq (je_var 3)) (blkOk_by (by kernel_rfl)) (fun s H C cl fp => (jg_name 8 B.nd)) (fun s H C cl fp B => (jts_one (jt_cmp opD_le (jx_b1 as_sum (cb_sum B.calm) fx.b_sum (by decide +kernel) (je_b (je_var 8))) (je_var 6) rfl))) (fun s H C cl fp B => (je_var 8))))) (jg_name 8 B.nd) (jss_cons (js_set 10 B (je_t1 cb_tuple fx.b_tuple (by decide +kernel) (je_b (jf_e (jf_comp [("_law_one", 11), ("_law_cell", 12)] B (ji_zip rfl fx.b_zip (je_var 9) (je_var 8)) (blkOk_by (by kernel_rfl)) (fun s H C cl fp => (jg_tup B.calm (jgs_cons (jg_name 11 B.nd) (jgs_cons (jg_name 12 B.nd) jgs_nil)))) (fun s H C cl fp B => jts_nil) (fun s H C cl fp B => (je_bin opD_sub (je_var 11) (je_var 12)))))))) (jss_one (js_if (jt_cmp opD_ge (jx_b1 as_best (cb_minL B) fx.b_min (by decide +kernel) (je_b (je_var 10))) je_int rfl) (jss_one (js_dcuPut 7 B (je_var 10) (je_bN (cn_max2 B.calm) fx.b_max (by decide +kernel) (ja_cons (je_dcuGetD 7 B (je_var 10) je_int ⟨rfl, rfl, rfl, rfl⟩) (ja_cons (jx_bin as_add opD_add (je_ditGet B (je_var 5) (je_var 9) fun _ _ => rfl) (jx_b1 as_sum (cb_sum B.calm) fx.b_sum (by decide +kernel) (je_b (je_var 8)))) ja_nil))))) jss_nil)))))) (jss_one (js_set 5 B (je_frzT 7)))))) (jss_one (js_ret (jx_b1 as_best (cb_maxL B) fx.b_max (by decide +kernel) (je_b (jf_e (jf_comp [("_law_left", 9)] B (ji_dit (je_var 5)) (blkOk_by (by kernel_rfl)) (fun s H C cl fp => (jg_name 9 B.nd)) (fun s H C cl fp B => jts_nil) (fun s H C cl fp B => (je_ditGet B (je_var 5) (je_var 9) fun _ _ => rfl)))))))))))), pure_L_by_force⟩
theorem ok_L_right (fx : Fx P w K mg base T) : DefOk P w K mg base T "_law_right" 9 ["_law_urn_here"] F_L_right :=
  def_okX (st := s_L_right) (N := N_L_right) (k := 8) fx.d_L_right ⟨rfl, rfl, rfl, by decide +kernel, rfl, by decide +kernel, by decide +kernel⟩ (fun f fd D => D.bindsN fun _ _ _ _ _ _ us hl => match us, hl with | [_], _ => rfl) len_L_right
    fun cdv A outer s H E f B tk => ⟨w_L_right, (jss_cons (js_set 1 B (je_call B (ok_L_pick fx) (ja_cons (je_var 0) (ja_cons (jf_e (jf_lst (ja_cons je_int (ja_cons je_int (ja_cons je_int (ja_cons je_int (ja_cons je_int ja_nil))))))) ja_nil)))) (jss_cons (js_set 2 B (je_call B (ok_L_grid fx) (ja_cons (je_var 0) (ja_cons (je_var 1) (ja_cons (jx_bin as_add opD_add je_int (je_call B (ok_L_ball fx) (ja_cons (je_var 0) (ja_cons je_int ja_nil)))) (ja_cons (jx_bin as_add opD_add je_int (je_call B (ok_L_ball fx) (ja_cons (je_var 0) (ja_cons je_int ja_nil)))) ja_nil)))))) (jss_cons (js_asg (us := [4, 5]) (je_call B (ok_L_near fx) (ja_cons (je_var 0) (ja_cons (je_call B (ok_L_line_sums fx) (ja_cons (je_var 2) ja_nil)) (ja_cons (je_call B (ok_L_column_sums fx) (ja_cons (je_var 2) ja_nil)) ja_nil)))) (jg_tup B.calm (jgs_cons (jg_name 4 B.nd) (jgs_cons (jg_name 5 B.nd) jgs_nil)))) (jss_cons (js_if (jtx_cmp as_eq (opD_eq B.u64) (je_call B (ok_L_ball fx) (ja_cons (je_var 0) (ja_cons je_int ja_nil))) je_int rfl) (jss_one (js_set 4 B (je_t1 cb_tuple fx.b_tuple (by decide +kernel) (je_b (jf_e (jf_comp [("_law_line", 6)] B (ji_seq (je_var 4)) (blkOk_by (by kernel_rfl)) (fun s H C cl fp => (jg_name 6 B.nd)) (fun s H C cl fp B => jts_nil) (fun s H C cl fp B => (je_call B (ok_L_ball fx) (ja_cons (je_var 0) (ja_cons (jx_bin as_add opD_add (jx_bin as_mul opD_mul (jx_bin as_mul opD_mul je_int (je_var 1)) (je_b1 (cb_len) fx.b_len (by decide +kernel) (je_b (je_var 5)))) je_int) ja_nil)))))))))) jss_nil) (jss_cons (js_set 3 B (je_call B (ok_L_by_sets fx) (ja_cons (je_var 1) (ja_cons (je_var 4) (ja_cons (je_var 5) ja_nil))))) (jss_cons (js_if (jtx_cmp as_ne (opD_ne B.u64) (je_call B (ok_most_units fx) (ja_cons (je_tup (ja_cons je_str (ja_cons (je_var 1) (ja_cons (je_var 4) (ja_cons (je_var 5) ja_nil))))) ja_nil)) (je_var 3) rfl) (jss_one (js_ret je_bl)) jss_nil) (jss_cons (js_if (jt_bool (jw_and (jt_cmp opD_lt (je_b1 (cb_len) fx.b_len (by decide +kernel) (je_b (je_var 5))) je_int rfl) (jw_and (jt_cmp opD_lt (je_b1 (cb_len) fx.b_len (by decide +kernel) (je_b (je_var 4))) je_int rfl) (jw_and (jt_cmp opD_lt (je_var 1) je_int rfl) (jw_and1 (jt_cmp opD_lt (jx_b1 as_best (cb_maxL B) fx.b_max (by decide +kernel) (je_b (je_var 5))) je_int rfl)))))) (jss_one (js_if (jtx_cmp as_ne (opD_ne B.u64) (je_call B (ok_L_by_force fx) (ja_cons (je_var 1) (ja_cons (je_var 4) (ja_cons (je_var 5) ja_nil)))) (je_var 3) rfl) (jss_one (js_ret je_bl)) jss_nil)) jss_nil) (jss_one (js_ret (jx_cmp as_eq (opD_eq B.u64) (je_call B (ok_fewest_taken fx) (ja_cons (je_tup (ja_cons je_str (ja_cons (je_var 1) (ja_cons (je_var 4) (ja_cons (je_var 5) ja_nil))))) ja_nil)) (je_bin opD_sub (jx_bin as_add opD_add (jx_b1 as_sum (cb_sum B.calm) fx.b_sum (by decide +kernel) (je_b (je_var 4))) (jx_b1 as_sum (cb_sum B.calm) fx.b_sum (by decide +kernel) (je_b (je_var 5)))) (jx_bin as_mul opD_mul je_int (je_var 3))) rfl)))))))))), pure_L_right⟩
theorem ok_L_urn (fx : Fx P w K mg base T) : DefOk P w K mg base T "_law_urn" 1 ["_law_script", "_law_at"] F_L_urn :=
  def_okX (st := s_L_urn) (N := N_L_urn) (k := 0) fx.d_L_urn ⟨rfl, rfl, rfl, by decide +kernel, rfl, by decide +kernel, by decide +kernel⟩ (fun f fd D => D.bindsN fun _ _ _ _ _ _ us hl => match us, hl with | [_, _], _ => rfl) len_L_urn
    fun cdv A outer s H E f B tk => ⟨w_L_urn, (jss_cons (js_set 2 B (je_if (jt_cmp opD_lt (je_var 1) (je_b1 (cb_len) fx.b_len (by decide +kernel) (je_b (je_var 0))) rfl) (jx_ix (je_var 0) (je_var 1) fun _ _ => rfl) (jx_bin as_add opD_add (jx_bin as_mul opD_mul je_int (je_var 1)) je_int))) (jss_cons (js_set 3 B (jx_bin as_mod opD_mod (je_t1 cb_int fx.b_int (by decide +kernel) (je_b (je_bN cn_abs fx.b_abs (by decide +kernel) (ja_cons (je_var 2) ja_nil)))) (jx_bin as_pow opD_pow (jx_bin as_pow opD_pow je_int je_int) je_int))) (jss_cons (js_set 4 B (jx_bin as_add opD_add (jx_bin as_add opD_add (jx_bin as_add opD_add (jx_bin as_mul opD_mul (jx_bin as_mod opD_mod (je_t1 cb_int fx.b_int (by decide +kernel) (je_b (je_var 3))) je_int) je_int) (jx_bin as_mul opD_mul je_int (je_var 1))) (jx_bin as_mul opD_mul je_int (je_t1 cb_int fx.b_int (by decide +kernel) (je_b (je_cmp opD_lt (je_var 2) je_int rfl))))) je_int)) (jss_one (js_ret (je_box (jf_lst (ja_cons (je_bN (cn_max2 B.calm) fx.b_max (by decide +kernel) (ja_cons je_int (ja_cons (je_bin opD_sub (je_var 3) (jx_bin as_pow opD_pow je_int je_int)) ja_nil))) (ja_cons (jx_bin as_mod opD_mod (je_t1 cb_int fx.b_int (by decide +kernel) (je_b (je_var 4))) je_int) (ja_cons je_int ja_nil)))))))))), pure_L_urn⟩
theorem ok_law (fx : Fx P w K mg base T) : DefOk P w K mg base T "law" 10 ["_law_script"] F_law :=
  def_okX (st := s_law) (N := N_law) (k := 9) fx.d_law ⟨rfl, rfl, rfl, by decide +kernel, rfl, by decide +kernel, by decide +kernel⟩ (fun f fd D => D.bindsN fun _ _ _ _ _ _ us hl => match us, hl with | [_], _ => rfl) len_law
    fun cdv A outer s H E f B tk => ⟨w_law, (jss_cons (js_for B (us := [1]) (ji_range1 rfl fx.b_range (je_bN (cn_max2 B.calm) fx.b_max (by decide +kernel) (ja_cons je_int (ja_cons (je_bN (cn_min2 B.calm) fx.b_min (by decide +kernel) (ja_cons je_int (ja_cons (je_b1 (cb_len) fx.b_len (by decide +kernel) (je_b (je_var 0))) ja_nil))) ja_nil)))) (jg_name 1 B.nd) (jss_one (js_if (jt_not (jt_val (je_call B (ok_L_right fx) (ja_cons (je_call B (ok_L_urn fx) (ja_cons (je_var 0) (ja_cons (je_var 1) ja_nil))) ja_nil)))) (jss_one (js_ret je_bl)) jss_nil))) (jss_cons (js_set 2 B (jf_e (jf_lst (ja_cons (je_call B (ok_most_units fx) (ja_cons (je_tup (ja_cons je_str (ja_cons je_int (ja_cons (je_tup (ja_cons je_int (ja_cons je_int ja_nil))) (ja_cons (je_tup (ja_cons je_int (ja_cons je_int ja_nil))) ja_nil))))) ja_nil)) (ja_cons (je_call B (ok_fewest_taken fx) (ja_cons (je_tup (ja_cons je_str (ja_cons je_int (ja_cons (je_tup (ja_cons je_int (ja_cons je_int ja_nil))) (ja_cons (je_tup (ja_cons je_int (ja_cons je_int ja_nil))) ja_nil))))) ja_nil)) ja_nil))))) (jss_cons (js_set 2 B (jx_bin as_add opD_add (je_var 2) (jf_e (jf_lst (ja_cons (je_call B (ok_most_units fx) (ja_cons (je_tup (ja_cons je_str (ja_cons je_int (ja_cons (je_tup (ja_cons je_int (ja_cons je_int ja_nil))) (ja_cons (je_tup (ja_cons je_int (ja_cons je_int ja_nil))) ja_nil))))) ja_nil)) (ja_cons (je_call B (ok_fewest_taken fx) (ja_cons (je_tup (ja_cons je_str (ja_cons je_int (ja_cons (je_tup (ja_cons je_int ja_nil)) (ja_cons (je_tup (ja_cons je_int (ja_cons je_int ja_nil))) ja_nil))))) ja_nil)) ja_nil)))))) (jss_one (js_ret (jx_cmp as_eq (opD_eq B.u64) (je_var 2) (jf_e (jf_lst (ja_cons je_int (ja_cons je_int (ja_cons je_int (ja_cons je_int ja_nil)))))) rfl)))))), pure_law⟩
end
end Pr

namespace Pr
open PySem PySem.Spec PyProof.Rows L2 LamX Pd Hd
theorem fx_of {w : World} {K : PySem.W.Frag} {h base : Heap} {mg : Str → Option Value} (X : K.In h) (G : h.Ns mainGlobals mg) (c : SaysZ fa fn fb xi tf ex h K) (lt : ∀ y ∈ tf, LamT K mg base (tabT K tf) y) : Fx PySem.Challenge.rw_sumsalone_k21_most_units_by_all_sets.prog w K mg base (tabT K tf) where
  d_is_integer := hasD_of X G c.d 0 0 rfl rfl
  d_is_from := hasD_of X G c.d 1 1 rfl rfl
  d_is_count := hasD_of X G c.d 2 2 rfl rfl
  d_are_counts := hasD_of X G c.d 3 3 rfl rfl
  d_is_cap := hasD_of X G c.d 4 4 rfl rfl
  d_is_sums := hasD_of X G c.d 5 5 rfl rfl
  d_require_table_sums := hasD_of X G c.d 6 6 rfl rfl
  d_room := hasD_of X G c.d 7 7 rfl rfl
  d_bound := hasD_of X G c.d 9 9 rfl rfl
  d_heaviest := hasD_of X G c.d 8 8 rfl rfl
  d_tight_lines := hasD_of X G c.d 10 10 rfl rfl
  d_most_units := hasD_of X G c.d 11 11 rfl rfl
  d_fewest_taken := hasD_of X G c.d 12 12 rfl rfl
  d_L_ball := hasD_of X G c.d 14 14 rfl rfl
  d_L_pick := hasD_of X G c.d 15 15 rfl rfl
  d_L_grid := hasD_of X G c.d 16 16 rfl rfl
  d_L_near := hasD_of X G c.d 21 21 rfl rfl
  d_L_sets := hasD_of X G c.d 22 22 rfl rfl
  d_L_room := hasD_of X G c.d 19 19 rfl rfl
  d_L_by_sets := hasD_of X G c.d 23 23 rfl rfl
  d_L_line_sums := hasD_of X G c.d 17 17 rfl rfl
  d_L_column_sums := hasD_of X G c.d 18 18 rfl rfl
  d_L_by_force := hasD_of X G c.d 24 24 rfl rfl
  d_L_right := hasD_of X G c.d 25 25 rfl rfl
  d_L_urn := hasD_of X G c.d 13 13 rfl rfl
  d_law := hasD_of X G c.d 26 26 rfl rfl
  gx_heaviest := He.glo_ok X G (c.d.fact 8 (f := .glo "heaviest") rfl)
  gx_tight_lines := He.glo_ok X G (c.d.fact 10 (f := .glo "tight_lines") rfl)
  lm_heaviest := lt "heaviest" (by decide)
  lm_tight_lines := lt "tight_lines" (by decide)
  xc_InvalidSums := excC_of (c.d.fact 51 (f := .exc "InvalidSums") rfl) (He.glo_ok X G (c.d.fact 28 (f := .glo "InvalidSums") rfl))
  b_abs := He.free_ok X G (c.d.fact 30 (f := .free "abs") rfl)
  b_all := He.free_ok X G (c.d.fact 31 (f := .free "all") rfl)
  b_bool := He.free_ok X G (c.d.fact 32 (f := .free "bool") rfl)
  b_enumerate := He.free_ok X G (c.d.fact 33 (f := .free "enumerate") rfl)
  b_int := He.free_ok X G (c.d.fact 34 (f := .free "int") rfl)
  b_isinstance := He.free_ok X G (c.d.fact 35 (f := .free "isinstance") rfl)
  b_len := He.free_ok X G (c.d.fact 36 (f := .free "len") rfl)
  b_list := He.free_ok X G (c.d.fact 37 (f := .free "list") rfl)
  b_max := He.free_ok X G (c.d.fact 38 (f := .free "max") rfl)
  b_min := He.free_ok X G (c.d.fact 39 (f := .free "min") rfl)
  b_range := He.free_ok X G (c.d.fact 40 (f := .free "range") rfl)
  b_sorted := He.free_ok X G (c.d.fact 41 (f := .free "sorted") rfl)
  b_str := He.free_ok X G (c.d.fact 42 (f := .free "str") rfl)
  b_sum := He.free_ok X G (c.d.fact 43 (f := .free "sum") rfl)
  b_tuple := He.free_ok X G (c.d.fact 44 (f := .free "tuple") rfl)
  b_zip := He.free_ok X G (c.d.fact 45 (f := .free "zip") rfl)
  c_MAX_CAP := He.int_ok X G (c.d.fact 47 (f := .int "MAX_CAP" 9) rfl)
  c_MAX_COUNT := He.int_ok X G (c.d.fact 46 (f := .int "MAX_COUNT" 999999999999999999999999999999) rfl)
  c_MAX_LINES := He.int_ok X G (c.d.fact 48 (f := .int "MAX_LINES" 12) rfl)
  c_MAX_PLACES := He.int_ok X G (c.d.fact 49 (f := .int "MAX_PLACES" 16) rfl)
  c_TABLE := He.str_ok X G (c.d.fact 50 (f := .str "TABLE" "table") rfl)
end Pr
namespace Pr
open PySem PySem.Spec PyProof.Rows L2 LamX Pd
theorem defG_of {P : Program} {w : World} {K : PySem.W.Frag} {mg : Str → Option Value} {base : Heap} {T : List (Addr × Str)} {x : Str} {k : Nat} {ps : List Str} {F : Fn} (d : DefOk P w K mg base T x k ps F) : DefG P w K mg base T x k ps F := by
  obtain ⟨f, fd, a, b, c, e⟩ := d.ex
  exact ⟨f, fd, a, b, c, FnG.of e.1, e.2⟩
end Pr
open PySem PySem.W PySem.Calls PyProof.Rows
theorem PySem.Challenge.cw_sumsalone_k21_most_units_by_all_sets_holds : PySem.Challenge.rw_sumsalone_k21_most_units_by_all_sets.Holds := by
  w_on; o_law
  refine HandSHeadRun.head_any (r := OpenLaw.row PySem.Challenge.rw_sumsalone_k21_most_units_by_all_sets) (q := view (OpenLaw.row PySem.Challenge.rw_sumsalone_k21_most_units_by_all_sets).prog [39]) (H := Hd.hk) (ob := Hd.ob) (M := 12000) (loose := Hd.loose) (d := HandSHeadRun.topDef (OpenLaw.row PySem.Challenge.rw_sumsalone_k21_most_units_by_all_sets).prog 39) (kwd := []) Hd.ob_eq
    (by kernel_rfl) (fun s => by kernel_rfl) Hd.run (by kernel_rfl) (by kernel_rfl) (by kernel_rfl) (by rfl) (by first | assumption | decide +kernel) (by decide +kernel) ⟨rfl, rfl, rfl, rfl, rfl, by decide +kernel⟩ ?hw ?hc
  case hw => w_witness2
  case hc =>
    exact Pd.law_endV (l := PySem.Challenge.rw_sumsalone_k21_most_units_by_all_sets) (k := 10) (x := "_law_script") (st := Hd.s_law) (F := Pr.F_law) rfl (by kernel_rfl) ⟨rfl, by decide, by decide⟩ (by kernel_rfl)
      (fun w K mg h base KX G c => ⟨Pd.hasD_of KX G c.d 26 26 rfl rfl, fun lt => Pr.defG_of (Pr.ok_law (Pr.fx_of KX G c lt))⟩)
      (fun K f fd D s u => D.bindsA (ps := ["_law_script"]) (fun _ _ _ _ _ _ us hl => match us, hl with | [_], _ => rfl) s [u] rfl) Pr.law_true

