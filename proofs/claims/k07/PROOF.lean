import PyProof.Rows.All
import Wide.All
import OpenK.AllK
import Wide.FinOn
import HandS.ForMost
import HandS.ForExc
import HandS.Lambda
import HandS.Walk
import HandS.Zip
import HandS.HeadHook1
import HandS.TupAny
import HandS.Style
import HandS.Defaults
import HandS.Wide
import HandS.TupMul
import HandS.Deep
import HandS.IsInst
import HandS.SortKw
import HandS.SortInts
import KE.SortData
import HandS.Star
import KE.GoesEnum
import HandS.Iter
import KE.DataMinMax
import HandS.Property
import HandS.ClsMeth
import HandS.HeadNt
import HandS.TryMany
import HandS.TryOnly
import HandS.ExcField
import HandS.ExcOwn
import PyProof.ReprRoads
import PyProof.ReprLen
import KE.KExcSuper
import KE.KExcInit
import HandS.ExcInit
import HandS.ExcValue
import HandS.FStr
import PyProof.FitsInt
import KE.KStateDown
import HandS.Head0
import HandS.Head1
import HandS.Head2
import HandS.HeadEnd
import HandS.HeadHook2
import HandS.HeadHook3
import HandS.HeadHook4
import HandS.HeadWalk
import HandS.EndTab
import HandS.EndBits
import PyProof.DictDisplay
import KE.KRevSl
import HandS.Conv
import KE.KDictZip
import HandS.Zip0
import HandS.ListItems
import HandS.RaiseMore
import PyProof.MaxThree
import Lean
import PySem.Challenge.RW_sumsalone_k07_whole_roads_of_units
import HandS.Nested
import KE.SortKeyHeap
import KE.KSortKey
import HandS.Dict
import HandS.SetFor
import HandS.Strs
import HandS.TupSets
import HandS.Small
import HandS.DictComp
import KE.KDictPairs
import HandS.DictTup
import PyProof.Rows.TupDisplay
import KE.KDictDisplayH
import HandS.TupLen
import KE.KDictCopyH
import KE.KDictOf
import KE.KDictKeyed
import KE.KDictWalk
import PyProof.SumAny
import HandS.DictSubView
set_option Elab.async false
set_option linter.all false
set_option maxRecDepth 100000
set_option maxHeartbeats 0
namespace Pd
open PySem PySem.Spec PyProof.Rows L2 LamX

inductive D where
  | non
  | bl (b : Bool)
  | int (i : Int)
  | str (x : Str)
  | tup (xs : List D)
  | lst (xs : List D)
  | scr (ns : List Int)
  | dic (kvs : List (Key × D))
  | dit (kvs : List (List Key × D))
  | ins (C : Str) (fs : List (Str × D))
  | box (a : Addr)
  | raw (v : V)
  | cls (C : Str)

structure Wd where
  M : Hp
  B : List Addr
def Wd.add (wd : Wd) (p : Addr) (o : HO) : Wd := ⟨upd wd.M p o, wd.B⟩
def Sub (M M' : Hp) : Prop := ∀ a o, M a = some o → M' a = some o
theorem Sub.refl (M : Hp) : Sub M M := fun _ _ h => h
theorem Sub.trans {M M1 M2 : Hp} (a : Sub M M1) (b : Sub M1 M2) : Sub M M2 := fun x o h => b x o (a x o h)
theorem Sub.new {M : Hp} {p : Addr} {o : HO} (h : M p = none) : Sub M (upd M p o) := fun a u e => by
  rw [upd_ne (ne_of_none e h)]
  exact e
structure Le (wd wd' : Wd) : Prop where
  m : Sub wd.M wd'.M
  b : ∀ a ∈ wd.B, a ∈ wd'.B
theorem Le.refl (wd : Wd) : Le wd wd := ⟨Sub.refl _, fun _ h => h⟩
theorem Le.trans {a b c : Wd} (x : Le a b) (y : Le b c) : Le a c := ⟨x.m.trans y.m, fun z h => y.b z (x.b z h)⟩
theorem Le.add {wd : Wd} {p : Addr} {o : HO} (h : wd.M p = none) : Le wd (wd.add p o) := ⟨Sub.new h, fun _ h => h⟩

section
variable (K : PySem.W.Frag)
theorem sqL_mono {M M' : Hp} {a : Addr} {xs : List V} (s : Sub M M') (h : SqL K M a xs) : SqL K M' a xs := by
  rcases h with (h | ⟨o, h⟩) | h
  · exact .inl (.inl (s _ _ h))
  · exact .inl (.inr ⟨o, s _ _ h⟩)
  · exact .inr h
theorem sqT_sub {M M' : Hp} {a : Addr} {xs : List V} (s : Sub M M') (h : M a = some (.tup xs)) : SqT K M' a xs := .inl (.inl (s _ _ h))
theorem sqT_mono {M M' : Hp} {a : Addr} {xs : List V} (s : Sub M M') (h : SqT K M a xs) : SqT K M' a xs := by
  rcases h with (h | ⟨o, h⟩) | h
  · exact .inl (.inl (s _ _ h))
  · exact .inl (.inr ⟨o, s _ _ h⟩)
  · exact .inr h

mutual
inductive Rep (wd : Wd) : V → D → Prop
  | non : Rep wd .non .non
  | bl (b : Bool) : Rep wd (.bl b) (.bl b)
  | int (i : Int) : Rep wd (.int i) (.int i)
  | str (x : Str) : Rep wd (.str x) (.str x)
  | tup {a : Addr} {vs : List V} {ds : List D} : wd.M a = some (.tup vs) → Reps wd vs ds → Rep wd (.ref a) (.tup ds)
  | lst {a : Addr} {vs : List V} {ds : List D} : wd.M a = some (.lst vs) → Reps wd vs ds → Rep wd (.ref a) (.lst ds)
  | scr {a : Addr} {ns : List Int} : SqL K wd.M a (ns.map V.int) → Rep wd (.ref a) (.scr ns)
  | dic {a : Addr} {vs : List (Key × V)} {ds : List (Key × D)} : wd.M a = some (.dK vs) → vs.map (·.1) = ds.map (·.1) → Reps wd (vs.map (·.2)) (ds.map (·.2)) → Rep wd (.ref a) (.dic ds)
  | dit {a : Addr} {o : Obj} {vs : List (List Key × V)} {ds : List (List Key × D)} : wd.M a = some (.frz o (.dT vs)) → vs.map (·.1) = ds.map (·.1) → Reps wd (vs.map (·.2)) (ds.map (·.2)) → Rep wd (.ref a) (.dit ds)
  | ins {a dx : Addr} {C : Str} {vs : List (Str × V)} {ds : List (Str × D)} : wd.M a = some (.ins (He.ga K C) dx vs) → vs.map (·.1) = ds.map (·.1) → Reps wd (vs.map (·.2)) (ds.map (·.2)) → Rep wd (.ref a) (.ins C ds)
  | box {a : Addr} : a ∈ wd.B → Rep wd (.ref a) (.box a)
  | raw (v : V) : Rep wd v (.raw v)
  | cls (C : Str) : Rep wd (.ref (He.ga K C)) (.cls C)
inductive Reps (wd : Wd) : List V → List D → Prop
  | nil : Reps wd [] []
  | cons {v : V} {vs : List V} {d : D} {ds : List D} : Rep wd v d → Reps wd vs ds → Reps wd (v :: vs) (d :: ds)
end
end

section
variable {K : PySem.W.Frag} {wd wd' : Wd}
mutual
theorem Rep.mono (le : Le wd wd') : ∀ {v : V} {d : D}, Rep K wd v d → Rep K wd' v d
  | _, _, .non => .non
  | _, _, .bl b => .bl b
  | _, _, .int i => .int i
  | _, _, .str x => .str x
  | _, _, .tup h r => .tup (le.m _ _ h) (Reps.mono le r)
  | _, _, .lst h r => .lst (le.m _ _ h) (Reps.mono le r)
  | _, _, .scr h => .scr (sqL_mono K le.m h)
  | _, _, .dic h e r => .dic (le.m _ _ h) e (Reps.mono le r)
  | _, _, .dit h e r => .dit (le.m _ _ h) e (Reps.mono le r)
  | _, _, .ins h e r => .ins (le.m _ _ h) e (Reps.mono le r)
  | _, _, .box h => .box (le.b _ h)
  | _, _, .raw v => .raw v
  | _, _, .cls C => .cls C
theorem Reps.mono (le : Le wd wd') : ∀ {vs : List V} {ds : List D}, Reps K wd vs ds → Reps K wd' vs ds
  | _, _, .nil => .nil
  | _, _, .cons h t => .cons (Rep.mono le h) (Reps.mono le t)
end
theorem Reps.length : ∀ {vs : List V} {ds : List D}, Reps K wd vs ds → vs.length = ds.length
  | _, _, .nil => rfl
  | _, _, .cons _ t => congrArg (· + 1) t.length
theorem Reps.get : ∀ {vs : List V} {ds : List D} {i : Nat} {d : D}, Reps K wd vs ds → ds[i]? = some d → ∃ v, vs[i]? = some v ∧ Rep K wd v d
  | _, _, i, _, .nil, e => by simp at e
  | _, _, 0, _, .cons h _, e => by simp at e; subst e; exact ⟨_, rfl, h⟩
  | _, _, i + 1, _, .cons _ t, e => by
    obtain ⟨v, e1, r⟩ := Reps.get (i := i) t (by simpa using e)
    exact ⟨v, by simpa using e1, r⟩
theorem Reps.getV : ∀ {vs : List V} {ds : List D} {i : Nat} {v : V}, Reps K wd vs ds → vs[i]? = some v → ∃ d, ds[i]? = some d ∧ Rep K wd v d
  | _, _, i, _, .nil, e => by simp at e
  | _, _, 0, _, .cons h _, e => by simp at e; subst e; exact ⟨_, rfl, h⟩
  | _, _, i + 1, _, .cons _ t, e => by
    obtain ⟨v, e1, r⟩ := Reps.getV (i := i) t (by simpa using e)
    exact ⟨v, by simpa using e1, r⟩
theorem Reps.append : ∀ {vs ws : List V} {ds es : List D}, Reps K wd vs ds → Reps K wd ws es → Reps K wd (vs ++ ws) (ds ++ es)
  | _, _, _, _, .nil, s => s
  | _, _, _, _, .cons h t, s => .cons h (Reps.append t s)
theorem Reps.take : ∀ {vs : List V} {ds : List D} (n : Nat), Reps K wd vs ds → Reps K wd (vs.take n) (ds.take n)
  | _, _, 0, _ => .nil
  | _, _, _ + 1, .nil => .nil
  | _, _, n + 1, .cons h t => .cons h (Reps.take n t)
theorem Reps.drop : ∀ {vs : List V} {ds : List D} (n : Nat), Reps K wd vs ds → Reps K wd (vs.drop n) (ds.drop n)
  | _, _, 0, r => r
  | _, _, _ + 1, .nil => .nil
  | _, _, n + 1, .cons _ t => Reps.drop n t
theorem Reps.set : ∀ {vs : List V} {ds : List D} {v : V} {d : D} (n : Nat), Rep K wd v d → Reps K wd vs ds → Reps K wd (vs.set n v) (ds.set n d)
  | _, _, _, _, _, _, .nil => .nil
  | _, _, _, _, 0, h, .cons _ t => .cons h t
  | _, _, _, _, n + 1, h, .cons a t => .cons a (Reps.set n h t)
theorem Reps.erase : ∀ {vs : List V} {ds : List D} (n : Nat), Reps K wd vs ds → Reps K wd (vs.eraseIdx n) (ds.eraseIdx n)
  | _, _, _, .nil => .nil
  | _, _, 0, .cons _ t => t
  | _, _, n + 1, .cons a t => .cons a (Reps.erase n t)
theorem Reps.reverse : ∀ {vs : List V} {ds : List D}, Reps K wd vs ds → Reps K wd vs.reverse ds.reverse
  | _, _, .nil => .nil
  | _, _, .cons h t => by
    rw [List.reverse_cons, List.reverse_cons]
    exact (Reps.reverse t).append (.cons h .nil)
theorem Reps.rep : ∀ {vs : List V} {ds : List D} (n : Nat), Reps K wd vs ds → Reps K wd (List.replicate n vs).flatten (List.replicate n ds).flatten
  | _, _, 0, _ => .nil
  | _, _, n + 1, h => by
    rw [List.replicate_succ, List.replicate_succ, List.flatten_cons, List.flatten_cons]
    exact h.append (Reps.rep n h)
theorem Reps.ints : ∀ {vs : List V} {ns : List Int}, Reps K wd vs (ns.map D.int) → vs = ns.map V.int
  | _, [], h => by cases h; rfl
  | _, n :: ns, h => by
    cases h with
    | cons a t =>
      cases a
      rw [Reps.ints t]
      rfl
theorem Reps.bools : ∀ {vs : List V} {ns : List Bool}, Reps K wd vs (ns.map D.bl) → vs = ns.map V.bl
  | _, [], h => by cases h; rfl
  | _, n :: ns, h => by
    cases h with
    | cons a t =>
      cases a
      rw [Reps.bools t]
      rfl
theorem Reps.ofInts : ∀ (ns : List Int), Reps K wd (ns.map V.int) (ns.map D.int)
  | [] => .nil
  | n :: ns => .cons (.int n) (Reps.ofInts ns)
end
end Pd

namespace Pd
open PySem PySem.Spec PyProof.Rows L2 LamX

def BoxAt (H : Hp) (b : Addr) : Prop := ∃ g s c : Int, H b = some (.lst [.int g, .int s, .int c]) ∧ 0 ≤ g ∧ g < 2 ^ 4000 ∧ 0 ≤ s ∧ s < 2 ^ 100 ∧ 0 ≤ c
def noTb (o : HO) : Prop := ∀ ps, o ≠ .tbl ps
def Sized : HO → Prop
  | .lst xs => xs.length ≤ sizeLine
  | .tup xs => xs.length ≤ sizeLine
  | .frz _ u => Sized u
  | _ => True
def SizedH : HO → Prop
  | .frz _ _ => True
  | .lst xs => xs.length ≤ sizeLine
  | .tup xs => xs.length ≤ sizeLine
  | _ => True
theorem Sized.h : ∀ {o : HO}, Sized o → SizedH o := fun {o} z => by
  cases o <;> first | exact trivial | exact z
structure Good (T : List (Addr × Str)) (wd : Wd) (H : Hp) : Prop where
  sub : Sub wd.M H
  ntb : ∀ a o, wd.M a = some o → noTb o ∧ Sized o
  box : ∀ b ∈ wd.B, wd.M b = none ∧ BoxAt H b
  tab : Tabs T H
  siz : ∀ a o, H a = some o → SizedH o
def Nt (H : Hp) (a : Addr) : Prop := ∀ o, H a = some o → ¬ noTb o
theorem Nt.of {H : Hp} {a : Addr} (h : H a = none) : Nt H a := fun o e => by
  rw [h] at e
  cases e
theorem Nt.no {H : Hp} {a : Addr} {o : HO} (n : Nt H a) (e : H a = some o) (t : noTb o) : False := n o e t
theorem Nt.upd {H : Hp} {p a : Addr} {o : HO} (n : Nt (upd H p o) a) (ne : a ≠ p) : Nt H a := fun u e => n u (by rw [upd_ne ne]; exact e)
structure Ord (wd0 wd : Wd) (H0 : Hp) : Prop where
  le : Le wd0 wd
  fm : ∀ a o, wd.M a = some o → wd0.M a = some o ∨ Nt H0 a ∨ ∃ vs, o = .tup vs
  fb : ∀ b ∈ wd.B, b ∈ wd0.B ∨ Nt H0 b
structure Keep (wd0 : Wd) (H0 H : Hp) : Prop where
  st : ∀ a o, H0 a = some o → a ∉ wd0.B → noTb o → H a = some o
  dm : ∀ a, Nt H a → Nt H0 a
theorem Ord.refl (wd : Wd) (H : Hp) : Ord wd wd H := ⟨Le.refl _, fun _ _ h => .inl h, fun _ h => .inl h⟩
theorem Keep.refl (wd : Wd) (H : Hp) : Keep wd H H := ⟨fun _ _ h _ _ => h, fun _ h => h⟩
theorem Ord.trans {a b c : Wd} {H0 H1 : Hp} (x : Ord a b H0) (y : Ord b c H1) (k : Keep a H0 H1) : Ord a c H0 :=
  ⟨x.le.trans y.le, fun p o h => (y.fm p o h).elim (x.fm p o) (fun z => .inr (z.elim (fun z => .inl (k.dm p z)) .inr)), fun p h => (y.fb p h).elim (x.fb p) (fun z => .inr (k.dm p z))⟩
theorem Keep.trans {a b : Wd} {H0 H1 H2 : Hp} (k : Keep a H0 H1) (x : Ord a b H0) (l : Keep b H1 H2) : Keep a H0 H2 :=
  ⟨fun p o h n t => l.st p o (k.st p o h n t) (fun hb => (x.fb p hb).elim n (fun z => z.no h t)) t, fun p h => k.dm p (l.dm p h)⟩
inductive Grow : Wd → Hp → Wd → Hp → Prop
  | refl (wd : Wd) (H : Hp) : Grow wd H wd H
  | add {wd wd1 : Wd} {H H1 : Hp} {p : Addr} {o : HO} : Grow wd H wd1 H1 → H1 p = none → noTb o → Sized o → Grow wd H (wd1.add p o) (upd H1 p o)
theorem Grow.one {wd : Wd} {H : Hp} {p : Addr} {o : HO} (h : H p = none) (t : noTb o) (z : Sized o) : Grow wd H (wd.add p o) (upd H p o) := .add (.refl _ _) h t z
theorem Grow.trans {wd wd1 wd2 : Wd} {H H1 H2 : Hp} (a : Grow wd H wd1 H1) (b : Grow wd1 H1 wd2 H2) : Grow wd H wd2 H2 := by
  induction b with
  | refl => exact a
  | add g h t z ih => exact .add (ih a) h t z
theorem noTb_lst {xs : List V} : noTb (.lst xs) := fun _ h => nomatch h
theorem noTb_tup {xs : List V} : noTb (.tup xs) := fun _ h => nomatch h
section
variable {T : List (Addr × Str)}
theorem siz_upd {H : Hp} {p : Addr} {o : HO} (h : ∀ a o, H a = some o → SizedH o) (z : Sized o) : ∀ a u, upd H p o a = some u → SizedH u := fun a u e => by
  by_cases ha : a = p
  · subst ha
    rw [upd_same] at e
    cases e
    exact z.h
  · rw [upd_ne ha] at e
    exact h a u e
theorem Good.add {wd : Wd} {H : Hp} {p : Addr} {o : HO} (g : Good T wd H) (h : H p = none) (t : noTb o) (z : Sized o) : Good T (wd.add p o) (upd H p o) := by
  have hm : wd.M p = none := by
    cases e : wd.M p with
    | none => rfl
    | some u =>
      have := g.sub p u e
      rw [h] at this
      cases this
  refine ⟨fun a u e => ?_, fun a u e => ?_, fun b hb => ?_, g.tab.ext fun b u e => ?_, siz_upd g.siz z⟩
  · by_cases ha : a = p
    · subst ha
      have e' : upd wd.M a o a = some u := e
      rw [upd_same] at e' ⊢
      exact e'
    · have e' : upd wd.M p o a = some u := e
      rw [upd_ne ha] at e' ⊢
      exact g.sub a u e'
  · by_cases ha : a = p
    · subst ha
      have e' : upd wd.M a o a = some u := e
      rw [upd_same] at e'
      cases e'
      exact ⟨t, z⟩
    · have e' : upd wd.M p o a = some u := e
      rw [upd_ne ha] at e'
      exact g.ntb a u e'
  · obtain ⟨h1, gg, s, c, h2, h3⟩ := g.box b hb
    have hbp : b ≠ p := ne_of_none h2 h
    refine ⟨?_, gg, s, c, ?_, h3⟩
    · show upd wd.M p o b = none
      rw [upd_ne hbp]
      exact h1
    · rw [upd_ne hbp]
      exact h2
  · rw [upd_ne (ne_of_none e h)]
    exact e
theorem Good.mnone {wd : Wd} {H : Hp} {p : Addr} (g : Good T wd H) (h : H p = none) : wd.M p = none := by
  cases e : wd.M p with
  | none => rfl
  | some u =>
    have := g.sub p u e
    rw [h] at this
    cases this
theorem Keep.add {wd : Wd} {H : Hp} {p : Addr} {o : HO} (h : H p = none) : Keep wd H (upd H p o) := by
  refine ⟨fun a u e _ _ => ?_, fun a e => ?_⟩
  · rw [upd_ne (ne_of_none e h)]
    exact e
  · by_cases ha : a = p
    · subst ha
      exact Nt.of h
    · exact e.upd ha
theorem Ord.add {wd : Wd} {H : Hp} {p : Addr} {o : HO} (g : Good T wd H) (h : H p = none) : Ord wd (wd.add p o) H := by
  refine ⟨Le.add (g.mnone h), fun a u e => ?_, fun b hb => .inl hb⟩
  by_cases ha : a = p
  · subst ha
    exact .inr (.inl (Nt.of h))
  · have e' : upd wd.M p o a = some u := e
    rw [upd_ne ha] at e'
    exact .inl e'
theorem Grow.all {wd wd' : Wd} {H H' : Hp} (g : Grow wd H wd' H') (o : Good T wd H) : Good T wd' H' ∧ Ord wd wd' H ∧ Keep wd H H' := by
  induction g with
  | refl => exact ⟨o, Ord.refl _ _, Keep.refl _ _⟩
  | add g h t z ih =>
    obtain ⟨a, b, c⟩ := ih o
    exact ⟨a.add h t z, b.trans (Ord.add a h) c, c.trans b (Keep.add h)⟩
end

inductive DK (α : Type) where
  | s (l : List (Key × α))
  | t (l : List (List Key × α))
def DK.vals {α : Type} : DK α → List α
  | .s l => l.map (·.2)
  | .t l => l.map (·.2)
def DK.same {α β : Type} : DK α → DK β → Prop
  | .s a, .s b => a.map (·.1) = b.map (·.1)
  | .t a, .t b => a.map (·.1) = b.map (·.1)
  | _, _ => False
def DK.cell : DK V → HO
  | .s l => .dK l
  | .t l => .dT l
inductive Sl where
  | d (x : D)
  | own (xs : List D)
  | obj (p : Addr) (C : Str) (fs : List (Str × D))
  | cels (cs : List (Addr × List D))
  | dct (lk : Option Obj) (kvs : DK D)
def lkO (lk : Option Obj) (u : HO) : HO := match lk with
  | none => u
  | some o => .frz o u
abbrev PEnv := List (Option Sl)
structure Ctx where
  wd : Wd
  H : Hp
  pn : List (Addr × List V) := []
def NoCel (env : PEnv) (p : Addr) : Prop := ∀ (i : Nat) (cs : List (Addr × List D)), env[i]? = some (some (Sl.cels cs)) → ∀ q ∈ cs, q.1 ≠ p
structure NoOwn (env : PEnv) (σ : L2.St) (p : Addr) : Prop where
  o : ∀ (i : Nat) (xs : List D), env[i]? = some (some (Sl.own xs)) → σ[i]? ≠ some (some (V.ref p))
  c : NoCel env p
structure Ext (K : PySem.W.Frag) (c : Ctx) (wd : Wd) (env : PEnv) (σ : L2.St) (H : Hp) : Prop where
  obj : ∀ (i : Nat) (p : Addr) (C : Str) (fs : List (Str × D)), env[i]? = some (some (Sl.obj p C fs)) → ∃ (dx : Addr) (vs : List (Str × V)), σ[i]? = some (some (V.ref p)) ∧ H p = some (.ins (He.ga K C) dx vs) ∧ wd.M p = none ∧ Nt c.H p ∧ vs.map (·.1) = fs.map (·.1) ∧ Reps K wd (vs.map (·.2)) (fs.map (·.2))
  ob1 : ∀ (i j : Nat) (p p' : Addr) (C C' : Str) (fs gs : List (Str × D)), env[i]? = some (some (Sl.obj p C fs)) → env[j]? = some (some (Sl.obj p' C' gs)) → i = j
  cel : ∀ (i : Nat) (cs : List (Addr × List D)), env[i]? = some (some (Sl.cels cs)) → ∀ q ∈ cs, (∃ vs, H q.1 = some (.lst vs) ∧ Reps K wd vs q.2) ∧ wd.M q.1 = none ∧ q.1 ∉ wd.B ∧ Nt c.H q.1 ∧ ∀ (j : Nat) (ys : List D), env[j]? = some (some (Sl.own ys)) → σ[j]? ≠ some (some (V.ref q.1))
  cnd : ∀ (i : Nat) (cs : List (Addr × List D)), env[i]? = some (some (Sl.cels cs)) → (cs.map (·.1)).Nodup
  ce1 : ∀ (i j : Nat) (cs ds : List (Addr × List D)), env[i]? = some (some (Sl.cels cs)) → env[j]? = some (some (Sl.cels ds)) → i ≠ j → ∀ q ∈ cs, ∀ q' ∈ ds, q.1 ≠ q'.1
  dct : ∀ (i : Nat) (lk : Option Obj) (kvs : DK D), env[i]? = some (some (Sl.dct lk kvs)) → ∃ (p : Addr) (vs : DK V), σ[i]? = some (some (V.ref p)) ∧ H p = some (lkO lk vs.cell) ∧ wd.M p = none ∧ Nt c.H p ∧ vs.same kvs ∧ Reps K wd vs.vals kvs.vals
  dc1 : ∀ (i j : Nat) (lk lk' : Option Obj) (ks ls : DK D) (p : Addr), env[i]? = some (some (Sl.dct lk ks)) → env[j]? = some (some (Sl.dct lk' ls)) → σ[i]? = some (some (V.ref p)) → σ[j]? = some (some (V.ref p)) → i = j
section
variable (K : PySem.W.Frag) (T : List (Addr × Str))
structure Rel (c : Ctx) (wd : Wd) (env : PEnv) (σ : L2.St) (H : Hp) : Prop where
  ord : Ord c.wd wd c.H
  good : Good T wd H
  keep : Keep c.wd c.H H
  len : env.length = σ.length
  dat : ∀ (i : Nat) (x : D), env[i]? = some (some (Sl.d x)) → ∃ v : V, σ[i]? = some (some v) ∧ Rep K wd v x
  own : ∀ (i : Nat) (xs : List D), env[i]? = some (some (Sl.own xs)) → ∃ (p : Addr) (vs : List V), σ[i]? = some (some (V.ref p)) ∧ H p = some (.lst vs) ∧ wd.M p = none ∧ p ∉ wd.B ∧ Nt c.H p ∧ Reps K wd vs xs
  sep : ∀ (i j : Nat) (xs ys : List D) (p : Addr), env[i]? = some (some (Sl.own xs)) → env[j]? = some (some (Sl.own ys)) → σ[i]? = some (some (V.ref p)) → σ[j]? = some (some (V.ref p)) → i = j
  pin : ∀ q ∈ c.pn, H q.1 = some (.lst q.2) ∧ wd.M q.1 = none ∧ q.1 ∉ wd.B ∧ NoOwn env σ q.1
  ext : Ext K c wd env σ H
end
theorem Ord.mnone {T : List (Addr × Str)} {wd wd' : Wd} {H H' : Hp} {p : Addr} {u : HO} (o : Ord wd wd' H) (h : wd.M p = none) (e : H p = some u) (t : noTb u) (g' : Good T wd' H') (e' : H' p = some u) (nt : ∀ vs, u ≠ .tup vs) : wd'.M p = none := by
  cases q : wd'.M p with
  | none => rfl
  | some u' =>
    rcases o.fm p u' q with z | z | ⟨vs, rfl⟩
    · rw [h] at z; cases z
    · exact (z.no e t).elim
    · have := g'.sub p _ q
      rw [e'] at this
      exact absurd (Option.some.inj this) (nt vs)
theorem Ord.bnone {wd wd' : Wd} {H : Hp} {p : Addr} {u : HO} (o : Ord wd wd' H) (h : p ∉ wd.B) (e : H p = some u) (t : noTb u) : p ∉ wd'.B := fun hb => by
  rcases o.fb p hb with z | z
  · exact h z
  · exact z.no e t
section
variable {K : PySem.W.Frag} {T : List (Addr × Str)} {c : Ctx} {wd wd' : Wd} {env env' : PEnv} {σ σ' : L2.St} {H H' : Hp}
theorem noTb_ins {C dx : Addr} {fs : List (Str × V)} : noTb (.ins C dx fs) := fun _ h => nomatch h
theorem Good.insB (g : Good T wd H) {p C dx : Addr} {fs : List (Str × V)} (h : H p = some (.ins C dx fs)) : p ∉ wd.B := fun z => by
  obtain ⟨_, _, _, _, e, _⟩ := g.box p z
  rw [h] at e
  cases e
theorem noTb_dK {kvs : List (Key × V)} : noTb (.dK kvs) := fun _ h => nomatch h
theorem noTb_lk {lk : Option Obj} {kvs : DK V} : noTb (lkO lk kvs.cell) := by
  cases lk <;> cases kvs <;> exact fun _ h => nomatch h
theorem lk_lst {lk : Option Obj} {kvs : DK V} {vs : List V} (h : some (HO.lst vs) = some (lkO lk kvs.cell)) : False := by
  cases lk <;> cases kvs <;> cases h
theorem lk_tup {lk : Option Obj} {kvs : DK V} {vs : List V} (h : some (HO.tup vs) = some (lkO lk kvs.cell)) : False := by
  cases lk <;> cases kvs <;> cases h
theorem lk_ins {lk : Option Obj} {kvs : DK V} {C dx : Addr} {vs : List (Str × V)} (h : some (HO.ins C dx vs) = some (lkO lk kvs.cell)) : False := by
  cases lk <;> cases kvs <;> cases h
theorem Good.dctB (g : Good T wd H) {p : Addr} {lk : Option Obj} {kvs : DK V} (h : H p = some (lkO lk kvs.cell)) : p ∉ wd.B := fun z => by
  obtain ⟨_, _, _, _, e, _⟩ := g.box p z
  rw [h] at e
  exact lk_lst e.symm
theorem noTup_lst {xs vs : List V} : HO.lst xs ≠ .tup vs := fun h => nomatch h
theorem noTup_lk {lk : Option Obj} {kvs : DK V} {vs : List V} : lkO lk kvs.cell ≠ .tup vs := by
  cases lk <;> cases kvs <;> exact fun h => nomatch h
theorem Ext.go (x : Ext K c wd env σ H) (g : Good T wd H) (o : Ord wd wd' H) (g' : Good T wd' H') (k : Keep wd H H') : Ext K c wd' env σ H' := by
  refine ⟨fun i p0 C fs e => ?_, x.ob1, fun i cs e q hq => ?_, x.cnd, x.ce1, fun i lk kvs e => ?_, x.dc1⟩
  · obtain ⟨dx, vs, h1, h2, h3, h4, h5, h6⟩ := x.obj i p0 C fs e
    exact ⟨dx, vs, h1, k.st p0 _ h2 (g.insB h2) noTb_ins, o.mnone h3 h2 noTb_ins g' (k.st p0 _ h2 (g.insB h2) noTb_ins) (fun _ z => nomatch z), h4, h5, h6.mono o.le⟩
  · obtain ⟨⟨vs, h1, h2⟩, h3, h4, h5, h6⟩ := x.cel i cs e q hq
    exact ⟨⟨vs, k.st _ _ h1 h4 noTb_lst, h2.mono o.le⟩, o.mnone h3 h1 noTb_lst g' (k.st _ _ h1 h4 noTb_lst) (fun _ => noTup_lst), o.bnone h4 h1 noTb_lst, h5, h6⟩
  · obtain ⟨p, vs, h1, h2, h3, h4, h5, h6⟩ := x.dct i lk kvs e
    exact ⟨p, vs, h1, k.st p _ h2 (g.dctB h2) noTb_lk, o.mnone h3 h2 noTb_lk g' (k.st p _ h2 (g.dctB h2) noTb_lk) (fun _ => noTup_lk), h4, h5, h6.mono o.le⟩
theorem Ext.sl (x : Ext K c wd env σ H) (hs : ∀ (i : Nat) (s : Sl), env'[i]? = some (some s) → (∀ d, s ≠ .d d) → (∀ ys, s ≠ .own ys) → env[i]? = some (some s) ∧ σ'[i]? = σ[i]?)
    (ho : ∀ (j : Nat) (ys : List D), env'[j]? = some (some (.own ys)) → (∃ ys', env[j]? = some (some (.own ys')) ∧ σ'[j]? = σ[j]?) ∨ ∃ p, σ'[j]? = some (some (.ref p)) ∧ NoCel env p) : Ext K c wd env' σ' H := by
  have ob : ∀ {i : Nat} {p : Addr} {C : Str} {fs : List (Str × D)}, env'[i]? = some (some (Sl.obj p C fs)) → env[i]? = some (some (Sl.obj p C fs)) ∧ σ'[i]? = σ[i]? := fun {i p C fs} e => hs i _ e (fun _ z => nomatch z) (fun _ z => nomatch z)
  have ce : ∀ {i : Nat} {cs : List (Addr × List D)}, env'[i]? = some (some (Sl.cels cs)) → env[i]? = some (some (Sl.cels cs)) ∧ σ'[i]? = σ[i]? := fun {i cs} e => hs i _ e (fun _ z => nomatch z) (fun _ z => nomatch z)
  have dc : ∀ {i : Nat} {lk : Option Obj} {kvs : DK D}, env'[i]? = some (some (Sl.dct lk kvs)) → env[i]? = some (some (Sl.dct lk kvs)) ∧ σ'[i]? = σ[i]? := fun {i lk kvs} e => hs i _ e (fun _ z => nomatch z) (fun _ z => nomatch z)
  refine ⟨fun i p0 C fs e => ?_, fun i j p p' C C' fs gs e1 e2 => x.ob1 i j p p' C C' fs gs (ob e1).1 (ob e2).1, fun i cs e q hq => ?_, fun i cs e => x.cnd i cs (ce e).1, fun i j cs ds e1 e2 => x.ce1 i j cs ds (ce e1).1 (ce e2).1, fun i lk kvs e => ?_, fun i j lk lk' ks ls p e1 e2 e3 e4 => x.dc1 i j lk lk' ks ls p (dc e1).1 (dc e2).1 (by rw [← (dc e1).2]; exact e3) (by rw [← (dc e2).2]; exact e4)⟩
  · obtain ⟨dx, vs, h1, h2⟩ := x.obj i p0 C fs (ob e).1
    exact ⟨dx, vs, by rw [(ob e).2]; exact h1, h2⟩
  · obtain ⟨h1, h3, h4, h5, h6⟩ := x.cel i cs (ce e).1 q hq
    refine ⟨h1, h3, h4, h5, fun j ys e2 => ?_⟩
    rcases ho j ys e2 with ⟨ys', z1, z2⟩ | ⟨p, z1, z2⟩
    · rw [z2]
      exact h6 j ys' z1
    · rw [z1]
      intro z
      have := z2 i cs (ce e).1 q hq
      cases z
      exact this rfl
  · obtain ⟨p, vs, h1, h2⟩ := x.dct i lk kvs (dc e).1
    exact ⟨p, vs, by rw [(dc e).2]; exact h1, h2⟩
theorem upd_none {M : Hp} {p a : Addr} {o : HO} (h : M a = none) (ne : a ≠ p) : upd M p o a = none := by rw [upd_ne ne]; exact h
theorem Ext.addM (x : Ext K c wd env σ H) {p : Addr} {vs : List V} {o : HO} (hm : wd.M p = none) (n : NoCel env p) (h : H p = some (.lst vs)) : Ext K c (wd.add p o) env σ H := by
  have le : Le wd (wd.add p o) := Le.add hm
  refine ⟨fun i p0 C fs e => ?_, x.ob1, fun i cs e q hq => ?_, x.cnd, x.ce1, fun i lk kvs e => ?_, x.dc1⟩
  · obtain ⟨dx, us, h1, h2, h3, h4, h5, h6⟩ := x.obj i p0 C fs e
    refine ⟨dx, us, h1, h2, upd_none h3 (fun z => ?_), h4, h5, h6.mono le⟩
    rw [z, h] at h2
    cases h2
  · obtain ⟨⟨us, h1, h2⟩, h3, h4, h5, h6⟩ := x.cel i cs e q hq
    exact ⟨⟨us, h1, h2.mono le⟩, upd_none h3 (n i cs e q hq), h4, h5, h6⟩
  · obtain ⟨p0, us, h1, h2, h3, h4, h5, h6⟩ := x.dct i lk kvs e
    refine ⟨p0, us, h1, h2, upd_none h3 (fun z => ?_), h4, h5, h6.mono le⟩
    rw [z, h] at h2
    exact lk_lst h2
theorem Ext.updL (x : Ext K c wd env σ H) {p : Addr} {vs : List V} {o : HO} (n : NoCel env p) (h : H p = some (.lst vs)) : Ext K c wd env σ (upd H p o) := by
  refine ⟨fun i p0 C fs e => ?_, x.ob1, fun i cs e q hq => ?_, x.cnd, x.ce1, fun i lk kvs e => ?_, x.dc1⟩
  · obtain ⟨dx, us, h1, h2, h3⟩ := x.obj i p0 C fs e
    refine ⟨dx, us, h1, ?_, h3⟩
    rw [upd_ne (fun z => by rw [z, h] at h2; cases h2)]
    exact h2
  · obtain ⟨⟨us, h1, h2⟩, h3⟩ := x.cel i cs e q hq
    exact ⟨⟨us, by rw [upd_ne (n i cs e q hq)]; exact h1, h2⟩, h3⟩
  · obtain ⟨p0, us, h1, h2, h3⟩ := x.dct i lk kvs e
    refine ⟨p0, us, h1, ?_, h3⟩
    rw [upd_ne (fun z => by rw [z, h] at h2; exact lk_lst h2)]
    exact h2
theorem Ext.new (x : Ext K c wd env σ H) {p : Addr} {o : HO} (h : H p = none) : Ext K c wd env σ (upd H p o) := by
  refine ⟨fun i p0 C fs e => ?_, x.ob1, fun i cs e q hq => ?_, x.cnd, x.ce1, fun i lk kvs e => ?_, x.dc1⟩
  · obtain ⟨dx, us, h1, h2, h3⟩ := x.obj i p0 C fs e
    exact ⟨dx, us, h1, by rw [upd_ne (ne_of_none h2 h)]; exact h2, h3⟩
  · obtain ⟨⟨us, h1, h2⟩, h3⟩ := x.cel i cs e q hq
    exact ⟨⟨us, by rw [upd_ne (ne_of_none h1 h)]; exact h1, h2⟩, h3⟩
  · obtain ⟨p0, us, h1, h2, h3⟩ := x.dct i lk kvs e
    exact ⟨p0, us, h1, by rw [upd_ne (ne_of_none h2 h)]; exact h2, h3⟩
theorem Ext.noOwn (x : Ext K c wd env σ H) {i : Nat} {xs : List D} {p : Addr} (e : env[i]? = some (some (Sl.own xs))) (h : σ[i]? = some (some (.ref p))) : NoCel env p := fun j cs ec q hq z =>
  (x.cel j cs ec q hq).2.2.2.2 i xs e (by rw [z]; exact h)
theorem Ext.noNone (x : Ext K c wd env σ H) {p : Addr} (h : H p = none) : NoCel env p := fun j cs ec q hq z => by
  obtain ⟨⟨vs, h1, _⟩, _⟩ := x.cel j cs ec q hq
  rw [z, h] at h1
  cases h1
theorem NoCel.set_d {i : Nat} {s : Sl} {p : Addr} (h : NoCel env p) (hs : ∀ cs, s ≠ .cels cs) : NoCel (env.set i (some s)) p := fun j cs e => by
  by_cases hj : i = j
  · subst hj
    by_cases hl : i < env.length
    · rw [List.getElem?_set_self hl] at e
      cases e
      exact absurd rfl (hs cs)
    · rw [List.set_eq_of_length_le (by omega)] at e
      exact h i cs e
  · rw [List.getElem?_set_ne hj] at e
    exact h j cs e
end
section
variable {K : PySem.W.Frag} {T : List (Addr × Str)} {c : Ctx} {wd wd' : Wd} {env : PEnv} {σ : L2.St} {H H' : Hp}
theorem Rel.go (r : Rel K T c wd env σ H) (o : Ord wd wd' H) (g : Good T wd' H') (k : Keep wd H H') : Rel K T c wd' env σ H' := by
  refine ⟨r.ord.trans o r.keep, g, r.keep.trans r.ord k, r.len, fun i x e => ?_, fun i xs e => ?_, r.sep, fun q hq => ?_, r.ext.go r.good o g k⟩
  · obtain ⟨v, h1, h2⟩ := r.dat i x e
    exact ⟨v, h1, h2.mono o.le⟩
  · obtain ⟨p, vs, h1, h2, h3, h4, h5, h6⟩ := r.own i xs e
    refine ⟨p, vs, h1, k.st p _ h2 h4 noTb_lst, ?_, fun hb => ?_, h5, h6.mono o.le⟩
    · exact o.mnone h3 h2 noTb_lst g (k.st p _ h2 h4 noTb_lst) fun _ => noTup_lst
    · rcases o.fb p hb with z | z
      · exact h4 z
      · exact z.no h2 noTb_lst
  · obtain ⟨h1, h2, h3, h4⟩ := r.pin q hq
    refine ⟨k.st _ _ h1 h3 noTb_lst, ?_, fun hb => ?_, h4⟩
    · exact o.mnone h2 h1 noTb_lst g (k.st _ _ h1 h3 noTb_lst) fun _ => noTup_lst
    · rcases o.fb _ hb with y | y
      · exact h3 y
      · exact y.no h1 noTb_lst
theorem Rel.grow (r : Rel K T c wd env σ H) (g : Grow wd H wd' H') : Rel K T c wd' env σ H' :=
  let ⟨a, b, k⟩ := g.all r.good
  r.go b a k
theorem get_set {α : Type} {l : List α} {i j : Nat} {x y : α} (h : (l.set i x)[j]? = some y) : (i = j ∧ x = y ∧ i < l.length) ∨ (i ≠ j ∧ l[j]? = some y) := by
  by_cases e : i = j
  · subst e
    by_cases hl : i < l.length
    · rw [List.getElem?_set_self hl] at h
      exact .inl ⟨rfl, Option.some.inj h, hl⟩
    · rw [List.set_eq_of_length_le (by omega)] at h
      have := (List.getElem?_eq_some_iff.mp h).1
      omega
  · rw [List.getElem?_set_ne e] at h
    exact .inr ⟨e, h⟩
theorem Rel.set (r : Rel K T c wd env σ H) {i : Nat} {v : V} {x : D} (h : Rep K wd v x) : Rel K T c wd (env.set i (some (.d x))) (σ.set i (some v)) H := by
  refine ⟨r.ord, r.good, r.keep, by simp [r.len], fun j y e => ?_, fun j ys e => ?_, fun j k xs ys p e1 e2 e3 e4 => ?_, fun q hq => ?_, r.ext.sl (fun j s e n1 n2 => ?_) fun j ys e => ?_⟩
  · rcases get_set e with ⟨rfl, e, hl⟩ | ⟨ne, e⟩
    · cases e
      rw [r.len] at hl
      exact ⟨v, List.getElem?_set_self hl, h⟩
    · obtain ⟨w, h1, h2⟩ := r.dat j y e
      exact ⟨w, by rw [List.getElem?_set_ne ne]; exact h1, h2⟩
  · rcases get_set e with ⟨rfl, e, hl⟩ | ⟨ne, e⟩
    · cases e
    · obtain ⟨p, vs, h1, h2⟩ := r.own j ys e
      exact ⟨p, vs, by rw [List.getElem?_set_ne ne]; exact h1, h2⟩
  · rcases get_set e1 with ⟨rfl, e, hl⟩ | ⟨ne1, e1⟩
    · cases e
    · rcases get_set e2 with ⟨rfl, e, hl⟩ | ⟨ne2, e2⟩
      · cases e
      · rw [List.getElem?_set_ne ne1] at e3
        rw [List.getElem?_set_ne ne2] at e4
        exact r.sep j k xs ys p e1 e2 e3 e4
  · obtain ⟨h1, h2, h3, h4⟩ := r.pin q hq
    refine ⟨h1, h2, h3, fun j ys e => ?_, h4.c.set_d fun _ z => nomatch z⟩
    rcases get_set e with ⟨rfl, e, hl⟩ | ⟨ne, e⟩
    · cases e
    · rw [List.getElem?_set_ne ne]
      exact h4.o j ys e
  · rcases get_set e with ⟨rfl, e, hl⟩ | ⟨ne, e⟩
    · cases e
      exact absurd rfl (n1 x)
    · exact ⟨e, List.getElem?_set_ne ne⟩
  · rcases get_set e with ⟨rfl, e, hl⟩ | ⟨ne, e⟩
    · cases e
    · exact .inl ⟨ys, e, List.getElem?_set_ne ne⟩
theorem Rel.freeze (r : Rel K T c wd env σ H) {i : Nat} {xs : List D} (e : env[i]? = some (some (Sl.own xs))) :
    ∃ (p : Addr) (vs : List V), σ[i]? = some (some (V.ref p)) ∧ H p = some (.lst vs) ∧ Le wd (wd.add p (.lst vs)) ∧ Rel K T c (wd.add p (.lst vs)) (env.set i (some (.d (.lst xs)))) σ H ∧ Rep K (wd.add p (.lst vs)) (.ref p) (.lst xs) := by
  obtain ⟨p, vs, h1, h2, h3, h4, h5, h6⟩ := r.own i xs e
  have le : Le wd (wd.add p (.lst vs)) := Le.add h3
  have hr : Rep K (wd.add p (.lst vs)) (.ref p) (.lst xs) := .lst upd_same (h6.mono le)
  have hil : i < env.length := (List.getElem?_eq_some_iff.mp e).1
  have gd : Good T (wd.add p (.lst vs)) H := by
    refine ⟨fun a o q => ?_, fun a o q => ?_, fun b hb => ?_, r.good.tab, r.good.siz⟩
    · by_cases ha : a = p
      · subst ha
        have q' : upd wd.M a (.lst vs) a = some o := q
        rw [upd_same] at q'
        cases q'
        exact h2
      · have q' : upd wd.M p (.lst vs) a = some o := q
        rw [upd_ne ha] at q'
        exact r.good.sub a o q'
    · by_cases ha : a = p
      · subst ha
        have q' : upd wd.M a (.lst vs) a = some o := q
        rw [upd_same] at q'
        cases q'
        exact ⟨noTb_lst, r.good.siz _ _ h2⟩
      · have q' : upd wd.M p (.lst vs) a = some o := q
        rw [upd_ne ha] at q'
        exact r.good.ntb a o q'
    · obtain ⟨z1, z2⟩ := r.good.box b hb
      refine ⟨?_, z2⟩
      show upd wd.M p (.lst vs) b = none
      rw [upd_ne (show b ≠ p from fun z => h4 (z ▸ hb))]
      exact z1
  refine ⟨p, vs, h1, h2, le, ⟨⟨r.ord.le.trans le, fun a o q => ?_, r.ord.fb⟩, gd, r.keep, by simp [r.len], fun j y q => ?_, fun j ys q => ?_, fun j l as bs z e1 e2 e3 e4 => ?_, fun q hq => ?_, (r.ext.addM h3 (r.ext.noOwn e h1) h2).sl (fun j s q n1 n2 => ?_) fun j ys q => ?_⟩, hr⟩
  · by_cases ha : a = p
    · subst ha
      exact .inr (.inl h5)
    · have q' : upd wd.M p (.lst vs) a = some o := q
      rw [upd_ne ha] at q'
      exact r.ord.fm a o q'
  · rcases get_set q with ⟨rfl, q, hl⟩ | ⟨ne, q⟩
    · cases q
      exact ⟨.ref p, h1, hr⟩
    · obtain ⟨w, z1, z2⟩ := r.dat j y q
      exact ⟨w, z1, z2.mono le⟩
  · rcases get_set q with ⟨rfl, q, hl⟩ | ⟨ne, q⟩
    · cases q
    · obtain ⟨p2, us, z1, z2, z3, z4, z5, z6⟩ := r.own j ys q
      refine ⟨p2, us, z1, z2, ?_, z4, z5, z6.mono le⟩
      show upd wd.M p (.lst vs) p2 = none
      rw [upd_ne (show p2 ≠ p from fun z => ne (r.sep i j xs ys p2 e q (by rw [z]; exact h1) z1))]
      exact z3
  · rcases get_set e1 with ⟨rfl, q, hl⟩ | ⟨ne1, e1⟩
    · cases q
    · rcases get_set e2 with ⟨rfl, q, hl⟩ | ⟨ne2, e2⟩
      · cases q
      · exact r.sep j l as bs z e1 e2 e3 e4
  · obtain ⟨y1, y2, y3, y4⟩ := r.pin q hq
    refine ⟨y1, ?_, y3, fun j ys z => ?_, y4.c.set_d fun _ z => nomatch z⟩
    · show upd wd.M p (.lst vs) q.1 = none
      rw [upd_ne (show q.1 ≠ p from fun z => y4.o i xs e (by rw [z]; exact h1))]
      exact y2
    · rcases get_set z with ⟨rfl, z, hl⟩ | ⟨ne, z⟩
      · cases z
      · exact y4.o j ys z
  · rcases get_set q with ⟨rfl, q, hl⟩ | ⟨ne, q⟩
    · cases q
      exact absurd rfl (n1 _)
    · exact ⟨q, rfl⟩
  · rcases get_set q with ⟨rfl, q, hl⟩ | ⟨ne, q⟩
    · cases q
    · exact .inl ⟨ys, q, rfl⟩
theorem Rel.mut (r : Rel K T c wd env σ H) {i : Nat} {xs ys : List D} {p : Addr} {us : List V} (e : env[i]? = some (some (Sl.own xs))) (hp : σ[i]? = some (some (V.ref p))) (h : Reps K wd us ys) (hz : us.length ≤ sizeLine) :
    Rel K T c wd (env.set i (some (.own ys))) σ (upd H p (.lst us)) := by
  obtain ⟨p', vs, h1, h2, h3, h4, h5, h6⟩ := r.own i xs e
  rw [h1] at hp
  cases hp
  refine ⟨r.ord, ⟨fun a o q => ?_, r.good.ntb, fun b hb => ?_, fun q hq => ?_, siz_upd r.good.siz hz⟩, ⟨fun a o q n t => ?_, fun a q => ?_⟩, by simp [r.len], fun j y q => ?_, fun j zs q => ?_, fun j l as bs z e1 e2 e3 e4 => ?_, fun q hq => ?_, (r.ext.updL (r.ext.noOwn e h1) h2).sl (fun j s q n1 n2 => ?_) fun j ys q => ?_⟩
  · rw [upd_ne (fun z => by rw [z, h3] at q; cases q)]
    exact r.good.sub a o q
  · obtain ⟨z1, g, s, c', z2, z3⟩ := r.good.box b hb
    exact ⟨z1, g, s, c', by rw [upd_ne (show b ≠ p from fun z => h4 (z ▸ hb))]; exact z2, z3⟩
  · obtain ⟨ps, z1, z2, z3⟩ := r.good.tab q hq
    refine ⟨ps, ?_, z2, fun pos cv hc => ?_⟩
    · rw [upd_ne (fun z => by rw [z, h2] at z1; cases z1)]
      exact z1
    · obtain ⟨a, y1, y2⟩ := z3 pos cv hc
      refine ⟨a, y1, ?_⟩
      rw [upd_ne (fun z => by rw [z, h2] at y2; cases y2)]
      exact y2
  · rw [upd_ne (show a ≠ p from fun z => h5.no (by rw [← z]; exact q) t)]
    exact r.keep.st a o q n t
  · by_cases ha : a = p
    · subst ha
      exact h5
    · exact r.keep.dm a (q.upd ha)
  · rcases get_set q with ⟨rfl, q, hl⟩ | ⟨ne, q⟩
    · cases q
    · exact r.dat j y q
  · rcases get_set q with ⟨rfl, q, hl⟩ | ⟨ne, q⟩
    · cases q
      exact ⟨p, us, h1, upd_same, h3, h4, h5, h⟩
    · obtain ⟨p2, ws, z1, z2, z3⟩ := r.own j zs q
      refine ⟨p2, ws, z1, ?_, z3⟩
      rw [upd_ne (show p2 ≠ p from fun z => ne (r.sep i j xs zs p2 e q (by rw [z]; exact h1) z1))]
      exact z2
  · have own' : ∀ {j : Nat} {as : List D}, (env.set i (some (.own ys)))[j]? = some (some (.own as)) → ∃ as', env[j]? = some (some (.own as')) := fun {j as} q => by
      rcases get_set q with ⟨rfl, q, hl⟩ | ⟨ne, q⟩
      · exact ⟨xs, e⟩
      · exact ⟨as, q⟩
    obtain ⟨as', q1⟩ := own' e1
    obtain ⟨bs', q2⟩ := own' e2
    exact r.sep j l as' bs' z q1 q2 e3 e4
  · obtain ⟨y1, y2, y3, y4⟩ := r.pin q hq
    refine ⟨?_, y2, y3, fun j as z => ?_, y4.c.set_d fun _ z => nomatch z⟩
    · rw [upd_ne (show q.1 ≠ p from fun z => y4.o i xs e (by rw [z]; exact h1))]
      exact y1
    · rcases get_set z with ⟨rfl, z, hl⟩ | ⟨ne, z⟩
      · exact y4.o i xs e
      · exact y4.o j as z
  · rcases get_set q with ⟨rfl, q, hl⟩ | ⟨ne, q⟩
    · cases q
      exact absurd rfl (n2 _)
    · exact ⟨q, rfl⟩
  · rcases get_set q with ⟨rfl, q, hl⟩ | ⟨ne, q⟩
    · exact .inl ⟨xs, e, rfl⟩
    · exact .inl ⟨ys, q, rfl⟩
end
end Pd

namespace Pd
open PySem PySem.Spec PyProof.Rows L2 LamX

def gt : PEnv → Nat → Option Sl
  | [], _ => none
  | x :: _, 0 => x
  | _ :: r, n + 1 => gt r n
theorem gt_eq : ∀ (env : PEnv) (i : Nat) {s : Sl}, gt env i = some s → env[i]? = some (some s)
  | [], _, _, h => by cases h
  | x :: r, 0, _, h => by
    have h' : x = some _ := h
    rw [h']; rfl
  | x :: r, n + 1, _, h => by
    have := gt_eq r n (s := _) h
    simpa using this

@[irreducible] def br (b : Bool) (x y : Prop) : Prop := match b with
  | true => x
  | false => y
theorem br_t {x y : Prop} (h : br true x y) : x := by unfold br at h; exact h
theorem br_f {x y : Prop} (h : br false x y) : y := by unfold br at h; exact h
theorem br_of {b : Bool} {x y : Prop} (h : b = true → x) (g : b = false → y) : br b x y := by
  unfold br
  cases b with
  | true => exact h rfl
  | false => exact g rfl
theorem br_tt {b : Bool} {x y : Prop} (e : b = true) (h : x) : br b x y := br_of (fun _ => h) (fun z => by rw [e] at z; cases z)
theorem br_ff {b : Bool} {x y : Prop} (e : b = false) (h : y) : br b x y := br_of (fun z => by rw [e] at z; cases z) (fun _ => h)
theorem br_if {p : Prop} [Decidable p] {x y : Prop} (h : p → x) (g : ¬ p → y) : br (decide p) x y := br_of (fun z => h (of_decide_eq_true z)) (fun z => g (of_decide_eq_false z))
theorem br_no {b : Bool} {x y : Prop} (h : br b y x) : br (!b) x y := by
  cases b with
  | true => exact br_of (fun z => by cases z) (fun _ => br_t h)
  | false => exact br_of (fun _ => br_f h) (fun z => by cases z)

structure Xc where
  cls : Str
  fs : List (Str × D)
abbrev W (α : Type) := PEnv → (α → PEnv → Prop) → (Xc → Prop) → Prop
def W.ret {α : Type} (a : α) : W α := fun env Q _ => Q a env
def W.bind {α β : Type} (m : W α) (f : α → W β) : W β := fun env Q ex => m env (fun a env' => f a env' Q ex) ex
def W.opt {α : Type} (o : Option α) : W α := fun env Q _ => match o with
  | some a => Q a env
  | none => False
def XRep (K : PySem.W.Frag) (x : Xc) (cl : Value) (dd : Option Addr) (wd : Wd) (H : Hp) : Prop :=
  cl = .ref (He.ga K x.cls) ∧ ((x.fs = [] ∧ dd = none) ∨ ∃ (a : Addr) (vs : List (Str × V)), dd = some a ∧ H a = some (.xd vs) ∧ vs.map (·.1) = x.fs.map (·.1) ∧ Reps K wd (vs.map (·.2)) (x.fs.map (·.2)))
section
variable (K : PySem.W.Frag) (T : List (Addr × Str))
def XOk (c : Ctx) (E : XK) (Ex : Xc → Prop) : Prop :=
  ∀ x, Ex x → ∀ (cl : Value) (dd : Option Addr) (wd' : Wd) (H' : Hp), Ord c.wd wd' c.H → Good T wd' H' → Keep c.wd c.H H' → XRep K x cl dd wd' H' → E cl dd H'
abbrev RR (α β : Type) := Ctx → Wd → PEnv → L2.St → Hp → β → α → Prop
def lift {α β : Type} (R : RR α β) (E : XK) (w : W α) : L2.St → Hp → (β → Hp → Prop) → Prop := fun σ H Q =>
  ∃ (c : Ctx) (wd : Wd) (env : PEnv) (P : α → PEnv → Prop) (Ex : Xc → Prop), Rel K T c wd env σ H ∧ w env P Ex ∧ XOk K T c E Ex ∧
    ∀ a env', P a env' → ∀ (b : β) (wd' : Wd) (H' : Hp), Le wd wd' → Rel K T c wd' env' σ H' → R c wd' env' σ H' b a → Q b H'
def rE : RR D V := fun _ wd _ _ _ v d => Rep K wd v d
def rT : RR Bool Bool := fun _ _ _ _ _ b a => b = a
def rA : RR (List D) (List V) := fun _ wd _ _ _ vs ds => Reps K wd vs ds
def Top (wd : Wd) (H : Hp) (v : V) (d : D) : Prop := Rep K wd v d ∨ ∃ (p : Addr) (vs : List V) (xs : List D), v = .ref p ∧ d = .lst xs ∧ H p = some (.lst vs) ∧ Reps K wd vs xs
def rB : RR D V := fun _ wd _ _ H v d => Top K wd H v d
def rF : RR (List D) V := fun c wd env σ H v xs => ∃ (p : Addr) (vs : List V), v = .ref p ∧ H p = some (.lst vs) ∧ wd.M p = none ∧ p ∉ wd.B ∧ Nt c.H p ∧ Reps K wd vs xs ∧
  NoOwn env σ p ∧ ∀ q ∈ c.pn, q.1 ≠ p
end
abbrev JE (T : List (Addr × Str)) (X : Cx) (E : XK) (e : Expr) (w : W D) : Prop := PE X e (lift X.K T (rE X.K) E w)
abbrev JB (T : List (Addr × Str)) (X : Cx) (E : XK) (e : Expr) (w : W D) : Prop := PE X e (lift X.K T (rB X.K) E w)
abbrev JF (T : List (Addr × Str)) (X : Cx) (E : XK) (e : Expr) (w : W (List D)) : Prop := PE X e (lift X.K T (rF X.K) E w)
abbrev JT (T : List (Addr × Str)) (X : Cx) (E : XK) (e : Expr) (w : W Bool) : Prop := PT X e (lift X.K T rT E w)
abbrev JW (T : List (Addr × Str)) (X : Cx) (E : XK) (e : Expr) (w : W Bool) : Prop := PW X e (lift X.K T rT E w)
abbrev JA (T : List (Addr × Str)) (X : Cx) (E : XK) (es : List Expr) (w : W (List D)) : Prop := PA X es (lift X.K T (rA X.K) E w)

section
variable {X : Cx} {T : List (Addr × Str)} {E : XK}
theorem peI {e : Expr} {t t' : TE} (h : PE X e t) (i : ∀ σ H Q, t' σ H Q → t σ H Q) : PE X e t' := ⟨fun pins s σ H Q I q => h.run pins s σ H Q I (i σ H Q q)⟩
theorem ptI {e : Expr} {t t' : TT} (h : PT X e t) (i : ∀ σ H Q, t' σ H Q → t σ H Q) : PT X e t' := ⟨fun pins s σ H Q I q => h.run pins s σ H Q I (i σ H Q q)⟩
theorem pwI {e : Expr} {t t' : TT} (h : PW X e t) (i : ∀ σ H Q, t' σ H Q → t σ H Q) : PW X e t' := ⟨fun whole pins s σ H Q I q => h.run whole pins s σ H Q I (i σ H Q q)⟩
theorem paI {es : List Expr} {t t' : TA} (h : PA X es t) (i : ∀ σ H Q, t' σ H Q → t σ H Q) : PA X es t' := ⟨fun pos pins s σ H Q I q => h.run pos pins s σ H Q I (i σ H Q q)⟩

def wVar (i : Nat) : W D := fun env Q _ => match gt env i with
  | some (.d x) => Q x env
  | _ => False
def wFrz (i : Nat) : W D := fun env Q _ => match gt env i with
  | some (.own xs) => Q (.lst xs) (env.set i (some (.d (.lst xs))))
  | _ => False
def wOwn (i : Nat) : W D := fun env Q _ => match gt env i with
  | some (.own xs) => Q (.lst xs) env
  | _ => False
theorem wVar_inv {i : Nat} {env : PEnv} {Q : D → PEnv → Prop} {ex : Xc → Prop} (h : wVar i env Q ex) : ∃ x, gt env i = some (.d x) ∧ Q x env := by
  unfold wVar at h
  split at h
  · exact ⟨_, by assumption, h⟩
  · exact h.elim
theorem wFrz_inv {i : Nat} {env : PEnv} {Q : D → PEnv → Prop} {ex : Xc → Prop} (h : wFrz i env Q ex) : ∃ xs, gt env i = some (.own xs) ∧ Q (.lst xs) (env.set i (some (.d (.lst xs)))) := by
  unfold wFrz at h
  split at h
  · exact ⟨_, by assumption, h⟩
  · exact h.elim
theorem wOwn_inv {i : Nat} {env : PEnv} {Q : D → PEnv → Prop} {ex : Xc → Prop} (h : wOwn i env Q ex) : ∃ xs, gt env i = some (.own xs) ∧ Q (.lst xs) env := by
  unfold wOwn at h
  split at h
  · exact ⟨_, by assumption, h⟩
  · exact h.elim
section
variable {x : Str} {pos : Pos}
theorem je_var (i : Nat) (hN : X.N[i]? = some x := by rfl) (hv : Vis X.env.scope x := by first | exact Or.inl rfl | exact Or.inr (Or.inl rfl) | exact Or.inr (Or.inr rfl)) (hd : (x == ("__debug__" : Str)) = false := by decide)
    (hcd : (x == ("__classdict__" : Str)) = false := by decide) : JE T X E (.Name x pos) (wVar i) :=
  peI (pe_var hN hv hd hcd) fun σ H Q ⟨c, wd, env, P, Ex, r, h, _, k⟩ => by
    obtain ⟨d, e, h⟩ := wVar_inv h
    obtain ⟨v, e1, rp⟩ := r.dat i d (gt_eq _ _ e)
    exact ⟨v, e1, k d env h v wd H (Le.refl _) r rp⟩
theorem je_frz (i : Nat) (hN : X.N[i]? = some x := by rfl) (hv : Vis X.env.scope x := by first | exact Or.inl rfl | exact Or.inr (Or.inl rfl) | exact Or.inr (Or.inr rfl)) (hd : (x == ("__debug__" : Str)) = false := by decide)
    (hcd : (x == ("__classdict__" : Str)) = false := by decide) : JE T X E (.Name x pos) (wFrz i) :=
  peI (pe_var hN hv hd hcd) fun σ H Q ⟨c, wd, env, P, Ex, r, h, _, k⟩ => by
    obtain ⟨xs, e, h⟩ := wFrz_inv h
    obtain ⟨p, vs, e1, e2, le, r2, rp⟩ := r.freeze (gt_eq _ _ e)
    exact ⟨.ref p, e1, k _ _ h _ _ H le r2 rp⟩
theorem jb_own (i : Nat) (hN : X.N[i]? = some x := by rfl) (hv : Vis X.env.scope x := by first | exact Or.inl rfl | exact Or.inr (Or.inl rfl) | exact Or.inr (Or.inr rfl)) (hd : (x == ("__debug__" : Str)) = false := by decide)
    (hcd : (x == ("__classdict__" : Str)) = false := by decide) : JB T X E (.Name x pos) (wOwn i) :=
  peI (pe_var hN hv hd hcd) fun σ H Q ⟨c, wd, env, P, Ex, r, h, _, k⟩ => by
    obtain ⟨xs, e, h⟩ := wOwn_inv h
    obtain ⟨p, vs, e1, e2, _, _, _, rp⟩ := r.own i xs (gt_eq _ _ e)
    exact ⟨.ref p, e1, k _ _ h _ wd H (Le.refl _) r (.inr ⟨p, vs, xs, rfl, rfl, e2, rp⟩)⟩
end
theorem je_c {e : Expr} {v : V} {d : D} (h : PE X e (tC v)) (hr : ∀ wd, Rep X.K wd v d) : JE T X E e (W.ret d) :=
  peI h fun σ H Q ⟨c, wd, env, P, Ex, r, h, _, k⟩ => k d env h v wd H (Le.refl _) r (hr wd)
theorem je_int {i j pos} : JE T X E (.Constant (.int i) j pos) (W.ret (.int i)) := je_c pe_int fun _ => .int i
theorem je_bl {b j pos} : JE T X E (.Constant (.bool b) j pos) (W.ret (.bl b)) := je_c pe_bl fun _ => .bl b
theorem je_non {j pos} : JE T X E (.Constant .none j pos) (W.ret .non) := je_c pe_non fun _ => .non
theorem je_str {x j pos} : JE T X E (.Constant (.str x) j pos) (W.ret (.str x)) := je_c pe_str fun _ => .str x
theorem je_gint {x : Str} {pos : Pos} {i : Int} (hg : Gl X x) (hm : ∃ t, X.mg x = some (.int i t)) (hd : (x == ("__debug__" : Str)) = false := by decide) : JE T X E (.Name x pos) (W.ret (.int i)) := by
  obtain ⟨t, hm⟩ := hm
  exact je_c (v := .int i) (pe_glob hg hm ⟨t, rfl⟩ hd) fun _ => .int i
theorem je_b {e : Expr} {w : W D} (h : JE T X E e w) : JB T X E e w :=
  peI h fun σ H Q ⟨c, wd, env, P, Ex, r, h, xo, k⟩ => ⟨c, wd, env, P, Ex, r, h, xo, fun a env' p b wd' H' le r' rp => k a env' p b wd' H' le r' (.inl rp)⟩
def wLst (w : W (List D)) : W D := w.bind fun xs => .ret (.lst xs)
theorem jf_e {e : Expr} {w : W (List D)} (h : JF T X E e w) : JE T X E e (wLst w) :=
  peI h fun σ H Q ⟨c, wd, env, P, Ex, r, h, xo, k⟩ => ⟨c, wd, env, fun xs env' => P (.lst xs) env', Ex, r, h, xo, fun xs env' p b wd' H' le r' rp => by
    obtain ⟨q, vs, rfl, h1, h2, h3, h4, h5, h6, h7⟩ := rp
    have le' : Le wd' (wd'.add q (.lst vs)) := Le.add h2
    refine k _ env' p (.ref q) (wd'.add q (.lst vs)) H' (le.trans le') ?_ (.lst upd_same (h5.mono le'))
    have uq : ∀ {a : Addr} {o : HO}, (wd'.add q (.lst vs)).M a = some o → (a = q ∧ o = .lst vs) ∨ wd'.M a = some o := fun {a o} z => by
      by_cases ha : a = q
      · subst ha
        have z' : upd wd'.M a (.lst vs) a = some o := z
        rw [upd_same] at z'
        cases z'
        exact .inl ⟨rfl, rfl⟩
      · have z' : upd wd'.M q (.lst vs) a = some o := z
        rw [upd_ne ha] at z'
        exact .inr z'
    refine ⟨⟨r'.ord.le.trans le', fun a o z => ?_, r'.ord.fb⟩, ⟨fun a o z => ?_, fun a o z => ?_, fun b hb => ?_, r'.good.tab, r'.good.siz⟩, r'.keep, r'.len, fun i d z => ?_, fun i ys z => ?_, r'.sep, fun qq hq => ?_, r'.ext.addM h2 h6.c h1⟩
    · rcases uq z with ⟨rfl, rfl⟩ | z
      · exact .inr (.inl h4)
      · exact r'.ord.fm a o z
    · rcases uq z with ⟨rfl, rfl⟩ | z
      · exact h1
      · exact r'.good.sub a o z
    · rcases uq z with ⟨rfl, rfl⟩ | z
      · exact ⟨noTb_lst, r'.good.siz _ _ h1⟩
      · exact r'.good.ntb a o z
    · obtain ⟨z1, z2⟩ := r'.good.box b hb
      refine ⟨?_, z2⟩
      show upd wd'.M q (.lst vs) b = none
      rw [upd_ne (show b ≠ q from fun z => h3 (z ▸ hb))]
      exact z1
    · obtain ⟨v, y1, y2⟩ := r'.dat i d z
      exact ⟨v, y1, y2.mono le'⟩
    · obtain ⟨p2, us, y1, y2, y3, y4, y5, y6⟩ := r'.own i ys z
      refine ⟨p2, us, y1, y2, ?_, y4, y5, y6.mono le'⟩
      show upd wd'.M q (.lst vs) p2 = none
      rw [upd_ne (show p2 ≠ q from fun zz => h6.o i ys z (by rw [← zz]; exact y1))]
      exact y3
    · obtain ⟨y1, y2, y3, y4⟩ := r'.pin qq hq
      refine ⟨y1, ?_, y3, y4⟩
      show upd wd'.M q (.lst vs) qq.1 = none
      rw [upd_ne (show qq.1 ≠ q from fun zz => h7 qq hq zz)]
      exact y2⟩
theorem Rel.fresh {K : PySem.W.Frag} {c : Ctx} {wd : Wd} {env : PEnv} {σ : L2.St} {H : Hp} (r : Rel K T c wd env σ H) {p : Addr} {vs : List V} {xs : List D} (hp : H p = none) (h : Reps K wd vs xs) (hz : vs.length ≤ sizeLine) :
    Rel K T c wd env σ (upd H p (.lst vs)) ∧ rF K c wd env σ (upd H p (.lst vs)) (.ref p) xs := by
  have hm := r.good.mnone hp
  have hb : p ∉ wd.B := fun z => by
    obtain ⟨_, g, s, c', e, _⟩ := r.good.box p z
    rw [hp] at e
    cases e
  have gd : Good T wd (upd H p (.lst vs)) := by
    refine ⟨fun a o e => ?_, r.good.ntb, fun b hb => ?_, r.good.tab.ext fun b u e => ?_, siz_upd r.good.siz hz⟩
    · have := r.good.sub a o e
      rw [upd_ne (ne_of_none this hp)]
      exact this
    · obtain ⟨h1, g, s, c', h2, h3⟩ := r.good.box b hb
      exact ⟨h1, g, s, c', by rw [upd_ne (ne_of_none h2 hp)]; exact h2, h3⟩
    · rw [upd_ne (ne_of_none e hp)]
      exact e
  refine ⟨r.go (Ord.refl _ _) gd (Keep.add hp), p, vs, rfl, upd_same, hm, hb, r.keep.dm p (Nt.of hp), h, ⟨fun i ys e z => ?_, r.ext.noNone hp⟩, fun q hq z => ?_⟩
  · obtain ⟨q, us, h1, h2, _⟩ := r.own i ys e
    rw [h1] at z
    cases z
    rw [hp] at h2
    cases h2
  · have := (r.pin q hq).1
    rw [z, hp] at this
    cases this

def wNil : W (List D) := .ret []
def wCons (a : W D) (r : W (List D)) : W (List D) := a.bind fun x => r.bind fun xs => .ret (x :: xs)
theorem ja_nil : JA T X E [] wNil := paI pa_nil fun σ H Q ⟨c, wd, env, P, Ex, r, h, _, k⟩ => k [] env h [] wd H (Le.refl _) r .nil
theorem ja_cons {e : Expr} {es : List Expr} {a : W D} {w : W (List D)} (ha : JE T X E e a) (hr : JA T X E es w) (hs : starEach (e :: es) X.env = (false, eval e X.env) :: starEach es X.env := by rfl) : JA T X E (e :: es) (wCons a w) :=
  paI (pa_cons ha hr hs) fun σ H Q ⟨c, wd, env, P, Ex, r, h, xo, k⟩ =>
    ⟨c, wd, env, _, Ex, r, h, xo, fun x env1 h1 v wd1 H1 le1 r1 rp1 => ⟨c, wd1, env1, _, Ex, r1, h1, xo, fun xs env2 h2 vs wd2 H2 le2 r2 rp2 => k _ env2 h2 (v :: vs) wd2 H2 (le1.trans le2) r2 (.cons (rp1.mono le2) rp2)⟩⟩
def wTup (w : W (List D)) : W D := w.bind fun xs env Q _ => xs.length ≤ 1000000 ∧ Q (.tup xs) env
theorem sz6 {n : Nat} (h : n ≤ 1000000) : n ≤ sizeLine := Nat.le_trans h (by decide)
theorem je_tup {es : List Expr} {w : W (List D)} {x1} {pos : Pos} (h : JA T X E es w) : JE T X E (.Tuple es x1 pos) (wTup w) :=
  peI (pe_tup h) fun σ H Q ⟨c, wd, env, P, Ex, r, h, xo, k⟩ =>
    ⟨c, wd, env, _, Ex, r, h, xo, fun xs env1 h1 vs wd1 H1 le1 r1 rp1 => by
      have hz : vs.length ≤ sizeLine := by rw [rp1.length]; exact sz6 h1.1
      refine ⟨hz, fun p hp => ?_⟩
      have g : Grow wd1 H1 (wd1.add p (.tup vs)) (upd H1 p (.tup vs)) := Grow.one hp noTb_tup hz
      have le2 : Le wd1 (wd1.add p (.tup vs)) := Le.add (r1.good.mnone hp)
      exact k _ env1 h1.2 (.ref p) _ _ (le1.trans le2) (r1.grow g) (.tup upd_same (rp1.mono le2))⟩
def wSz (w : W (List D)) : W (List D) := w.bind fun xs env Q _ => xs.length ≤ 1000000 ∧ Q xs env
theorem jf_lst {es : List Expr} {w : W (List D)} {pos : Pos} (h : JA T X E es w) : JF T X E (.List es pos) (wSz w) :=
  peI (pe_lst h) fun σ H Q ⟨c, wd, env, P, Ex, r, h, xo, k⟩ =>
    ⟨c, wd, env, _, Ex, r, h, xo, fun xs env1 h1 vs wd1 H1 le1 r1 rp1 => by
      have hz : vs.length ≤ sizeLine := by rw [rp1.length]; exact sz6 h1.1
      refine ⟨hz, fun p hp => ?_⟩
      obtain ⟨r2, f⟩ := r1.fresh hp rp1 hz
      exact k _ env1 h1.2 (.ref p) _ _ le1 r2 f⟩

def Del (K : PySem.W.Frag) (wd : Wd) (H : Hp) (z : D) (Q : VK) : Prop := ∀ w wd' H', Grow wd H wd' H' → Rep K wd' w z → Q w H'
theorem Grow.le {T : List (Addr × Str)} {wd wd' : Wd} {H H' : Hp} (g : Grow wd H wd' H') (o : Good T wd H) : Le wd wd' := (g.all o).2.1.le
theorem Del.now {K : PySem.W.Frag} {wd : Wd} {H : Hp} {z : D} {Q : VK} {w : V} (d : Del K wd H z Q) (r : Rep K wd w z) : Q w H := d w wd H (.refl _ _) r
theorem Del.tup {K : PySem.W.Frag} {wd : Wd} {H : Hp} {xs : List D} {Q : VK} {p : Addr} {vs : List V} (d : Del K wd H (.tup xs) Q) (g : Good T wd H) (hp : H p = none) (r : Reps K wd vs xs) (hz : vs.length ≤ sizeLine) : Q (.ref p) (upd H p (.tup vs)) :=
  d (.ref p) _ _ (Grow.one hp noTb_tup hz) (.tup upd_same (r.mono (Le.add (g.mnone hp))))
theorem Del.lst {K : PySem.W.Frag} {wd : Wd} {H : Hp} {xs : List D} {Q : VK} {p : Addr} {vs : List V} (d : Del K wd H (.lst xs) Q) (g : Good T wd H) (hp : H p = none) (r : Reps K wd vs xs) (hz : vs.length ≤ sizeLine) : Q (.ref p) (upd H p (.lst vs)) :=
  d (.ref p) _ _ (Grow.one hp noTb_lst hz) (.lst upd_same (r.mono (Le.add (g.mnone hp))))
structure OpD (X : Cx) (f : Value → Value → Sem Value) (g : D → D → Option D) : Prop where
  ex : ∃ r : R2, OpR X f r ∧ ∀ (x y z : D), g x y = some z → ∀ (T : List (Addr × Str)) (wd : Wd) (H : Hp) (v u : V) (Q : VK), Good T wd H → Rep X.K wd v x → Rep X.K wd u y → Del X.K wd H z Q → r v u H Q
def wBin (g : D → D → Option D) (a b : W D) : W D := a.bind fun x => b.bind fun y => .opt (g x y)
theorem opt_inv {α : Type} {o : Option α} {env : PEnv} {Q : α → PEnv → Prop} {ex : Xc → Prop} (h : W.opt o env Q ex) : ∃ a, o = some a ∧ Q a env := by
  unfold W.opt at h
  split at h
  · exact ⟨_, rfl, h⟩
  · exact h.elim
theorem lift_bin {K : PySem.W.Frag} {r : R2} {g : D → D → Option D} {a b : W D} {σ : L2.St} {H : Hp} {Q : VK}
    (ho : ∀ (x y z : D), g x y = some z → ∀ (T : List (Addr × Str)) (wd : Wd) (H : Hp) (v u : V) (Q : VK), Good T wd H → Rep K wd v x → Rep K wd u y → Del K wd H z Q → r v u H Q)
    (h : lift K T (rE K) E (wBin g a b) σ H Q) : tOp r (lift K T (rE K) E a) (lift K T (rE K) E b) σ H Q := by
  obtain ⟨c, wd, env, P, Ex, rl, h, xo, k⟩ := h
  refine ⟨c, wd, env, _, Ex, rl, h, xo, fun x env1 h1 v wd1 H1 le1 r1 rp1 => ⟨c, wd1, env1, _, Ex, r1, h1, xo, fun y env2 h2 u wd2 H2 le2 r2 rp2 => ?_⟩⟩
  obtain ⟨z, e, hz⟩ := opt_inv h2
  exact ho x y z e T wd2 H2 v u Q r2.good (Rep.mono le2 rp1) rp2 fun w wd3 H3 g3 rp3 => k z env2 hz w wd3 H3 ((le1.trans le2).trans (g3.le r2.good)) (r2.grow g3) rp3
theorem je_bin {op : Operator} {g : D → D → Option D} {x y : Expr} {a b : W D} {pos : Pos} (ho : OpD X (binaryOp op) g) (ha : JE T X E x a) (hb : JE T X E y b) : JE T X E (.BinOp x op y pos) (wBin g a b) := by
  obtain ⟨r, hr, hq⟩ := ho.ex
  exact peI (pe_op hr ha hb) fun σ H Q h => lift_bin hq h
theorem je_cmp {op : CmpOp} {g : D → D → Option D} {x y : Expr} {a b : W D} {pos : Pos} (ho : OpD X (compareOp op) g) (ha : JE T X E x a) (hb : JE T X E y b) (hm : behindInMarks op y = false) : JE T X E (.Compare x [op] [y] pos) (wBin g a b) := by
  obtain ⟨r, hr, hq⟩ := ho.ex
  exact peI (pe_cmpR hr ha hb hm) fun σ H Q h => lift_bin hq h
end
end Pd

namespace Pd
open PySem PySem.Spec PyProof.Rows L2 LamX
section
variable {X : Cx} {T : List (Addr × Str)} {E : XK}
def wChain (g g' : D → D → Option D) (a b m : W D) : W D := a.bind fun x => b.bind fun y => (W.opt (g x y)).bind fun z env Q ex => match z with
  | .bl t => br t ((m.bind fun w => .opt (g' y w)) env Q ex) (Q (.bl false) env)
  | _ => False
theorem je_chain {op op' : CmpOp} {g g' : D → D → Option D} {x y z : Expr} {a b m : W D} {pos : Pos} (ho : OpD X (compareOp op) g) (ho' : OpD X (compareOp op') g') (ha : JE T X E x a) (hb : JE T X E y b) (hm : JE T X E z m)
    (hl : lastMarks [op, op'] [y, z] = false := by with_unfolding_all rfl) : JE T X E (.Compare x [op, op'] [y, z] pos) (wChain g g' a b m) := by
  obtain ⟨r, hr, hq⟩ := ho.ex
  obtain ⟨r', hr', hq'⟩ := ho'.ex
  refine peI (pe_chain hr hr' ha hb hm hl) fun σ H Q ⟨c, wd, env, P, Ex, rl, h, xo, k⟩ => ?_
  refine ⟨c, wd, env, _, Ex, rl, h, xo, fun x1 env1 h1 v wd1 H1 le1 r1 rp1 => ⟨c, wd1, env1, _, Ex, r1, h1, xo, fun y1 env2 h2 u wd2 H2 le2 r2 rp2 => ?_⟩⟩
  obtain ⟨z1, e, h3⟩ := opt_inv h2
  refine hq x1 y1 z1 e T wd2 H2 v u _ r2.good (rp1.mono le2) rp2 fun w wd3 H3 g3 rp3 => ?_
  have le3 := g3.le r2.good
  have r3 := r2.grow g3
  split at h3
  · rename_i t
    cases rp3
    cases t
    · have h3 := br_f h3
      exact ⟨false, rfl, k _ env2 h3 _ wd3 H3 ((le1.trans le2).trans le3) r3 (.bl false)⟩
    have h3 := br_t h3
    refine ⟨true, rfl, ?_⟩
    show lift X.K T (rE X.K) E m σ H3 _
    refine ⟨c, wd3, env2, _, Ex, r3, h3, xo, fun w1 env4 h4 u4 wd4 H4 le4 r4 rp4 => ?_⟩
    obtain ⟨z2, e2, h5⟩ := opt_inv h4
    exact hq' y1 w1 z2 e2 T wd4 H4 u u4 Q r4.good ((rp2.mono le3).mono le4) rp4 fun w5 wd5 H5 g5 rp5 => k z2 env4 h5 w5 wd5 H5 ((((le1.trans le2).trans le3).trans le4).trans (g5.le r4.good)) (r4.grow g5) rp5
  · exact h3.elim

def wAnd (a b : W D) : W D := a.bind fun x env Q ex => match x with
  | .bl t => br t (b env Q ex) (Q (.bl false) env)
  | _ => False
def wNot (a : W D) : W D := a.bind fun x env Q ex => match x with
  | .bl b => Q (.bl (!b)) env
  | _ => False
theorem je_one {op} {x : Expr} {a : W D} {pos : Pos} (h : JE T X E x a) : JE T X E (.BoolOp op [x] pos) a := pe_one h
theorem je_and {x y : Expr} {rest : List Expr} {a b : W D} {pos : Pos} (ha : JE T X E x a) (hb : JE T X E (.BoolOp .And (y :: rest) pos) b) : JE T X E (.BoolOp .And (x :: y :: rest) pos) (wAnd a b) :=
  peI (pe_and ha hb) fun σ H Q ⟨c, wd, env, P, Ex, rl, h, xo, k⟩ => ⟨c, wd, env, _, Ex, rl, h, xo, fun x1 env1 h1 v wd1 H1 le1 r1 rp1 => by
    dsimp only at h1
    split at h1
    · rename_i t
      cases rp1
      cases t
      · exact ⟨false, rfl, k _ env1 (br_f h1) _ wd1 H1 le1 r1 (.bl false)⟩
      · exact ⟨true, rfl, c, wd1, env1, P, Ex, r1, br_t h1, xo, fun a1 env2 p b1 wd2 H2 le2 => k a1 env2 p b1 wd2 H2 (le1.trans le2)⟩
    · exact h1.elim⟩
theorem je_not {x : Expr} {a : W D} {pos : Pos} (ha : JE T X E x a) : JE T X E (.UnaryOp .Not x pos) (wNot a) :=
  peI (pe_not ha) fun σ H Q ⟨c, wd, env, P, Ex, rl, h, xo, k⟩ => ⟨c, wd, env, _, Ex, rl, h, xo, fun x1 env1 h1 v wd1 H1 le1 r1 rp1 => by
    dsimp only at h1
    split at h1
    · cases rp1
      exact ⟨_, rfl, k _ env1 h1 _ wd1 H1 le1 r1 (.bl _)⟩
    · exact h1.elim⟩
def wTest (a : W D) : W Bool := a.bind fun x env Q ex => match x with
  | .bl b => Q b env
  | _ => False
def tAndP (a b : W Bool) : W Bool := a.bind fun x env Q ex => br x (b env Q ex) (Q false env)
def tOrP (a b : W Bool) : W Bool := a.bind fun x env Q ex => br x (Q true env) (b env Q ex)
def tNotP (a : W Bool) : W Bool := a.bind fun x => .ret (!x)
theorem jt_val {x : Expr} {a : W D} (ha : JE T X E x a) (he : ∀ whole, isTrue x X.env whole = (do let v ← whole; standAt x.pos; holding [v] (truthy v)) := by intro _; rfl) : JT T X E x (wTest a) :=
  ptI (pt_val ha he) fun σ H Q ⟨c, wd, env, P, Ex, rl, h, xo, k⟩ => ⟨c, wd, env, _, Ex, rl, h, xo, fun x1 env1 h1 v wd1 H1 le1 r1 rp1 => by
    dsimp only at h1
    split at h1
    · cases rp1
      exact ⟨_, rfl, k _ env1 h1 _ wd1 H1 le1 r1 rfl⟩
    · exact h1.elim⟩
theorem jt_not {x : Expr} {a : W Bool} {pos : Pos} (ha : JT T X E x a) : JT T X E (.UnaryOp .Not x pos) (tNotP a) :=
  ptI (pt_not ha) fun σ H Q ⟨c, wd, env, P, Ex, rl, h, xo, k⟩ => ⟨c, wd, env, _, Ex, rl, h, xo, fun x1 env1 h1 v wd1 H1 le1 r1 rp1 => by
    cases (show v = x1 from rp1)
    exact k _ env1 h1 _ wd1 H1 le1 r1 rfl⟩
theorem jw_and1 {x : Expr} {a : W Bool} {pos : Pos} (ha : JT T X E x a) : JW T X E (.BoolOp .And [x] pos) a := pw_and1 ha
theorem jw_or1 {x : Expr} {a : W Bool} {pos : Pos} (ha : JT T X E x a) : JW T X E (.BoolOp .Or [x] pos) a := pw_or1 ha
theorem jw_and {x y : Expr} {rest : List Expr} {a b : W Bool} {pos : Pos} (ha : JT T X E x a) (hb : JW T X E (.BoolOp .And (y :: rest) pos) b) : JW T X E (.BoolOp .And (x :: y :: rest) pos) (tAndP a b) :=
  pwI (pw_and ha hb) fun σ H Q ⟨c, wd, env, P, Ex, rl, h, xo, k⟩ => ⟨c, wd, env, _, Ex, rl, h, xo, fun x1 env1 h1 v wd1 H1 le1 r1 rp1 => by
    obtain rfl : v = x1 := rp1
    cases v with
    | true => exact ⟨c, wd1, env1, P, Ex, r1, br_t h1, xo, fun a1 env2 p b1 wd2 H2 le2 => k a1 env2 p b1 wd2 H2 (le1.trans le2)⟩
    | false => exact k _ env1 (br_f h1) _ wd1 H1 le1 r1 rfl⟩
theorem jw_or {x y : Expr} {rest : List Expr} {a b : W Bool} {pos : Pos} (ha : JT T X E x a) (hb : JW T X E (.BoolOp .Or (y :: rest) pos) b) : JW T X E (.BoolOp .Or (x :: y :: rest) pos) (tOrP a b) :=
  pwI (pw_or ha hb) fun σ H Q ⟨c, wd, env, P, Ex, rl, h, xo, k⟩ => ⟨c, wd, env, _, Ex, rl, h, xo, fun x1 env1 h1 v wd1 H1 le1 r1 rp1 => by
    obtain rfl : v = x1 := rp1
    cases v with
    | true => exact k _ env1 (br_t h1) _ wd1 H1 le1 r1 rfl
    | false => exact ⟨c, wd1, env1, P, Ex, r1, br_f h1, xo, fun a1 env2 p b1 wd2 H2 le2 => k a1 env2 p b1 wd2 H2 (le1.trans le2)⟩⟩
theorem jt_bool {x : Expr} {a : W Bool} (h : JW T X E x a) : JT T X E x a := h.pt
theorem jt_cmp {op : CmpOp} {g : D → D → Option D} {x y : Expr} {a b : W D} {pos : Pos} (ho : OpD X (compareOp op) g) (ha : JE T X E x a) (hb : JE T X E y b) (hm : behindInMarks op y = false) : JT T X E (.Compare x [op] [y] pos) (wTest (wBin g a b)) := by
  obtain ⟨r, hr, hq⟩ := ho.ex
  refine ptI (pt_cmpR hr ha hb hm) fun σ H Q ⟨c, wd, env, P, Ex, rl, h, xo, k⟩ => lift_bin hq ⟨c, wd, env, _, Ex, rl, h, xo, fun x1 env1 h1 v wd1 H1 le1 r1 rp1 => ?_⟩
  dsimp only at h1
  split at h1
  · cases rp1
    exact ⟨_, rfl, k _ env1 h1 _ wd1 H1 le1 r1 rfl⟩
  · exact h1.elim
theorem jt_chain {op op' : CmpOp} {g g' : D → D → Option D} {x y z : Expr} {a b m : W D} {pos : Pos} (ho : OpD X (compareOp op) g) (ho' : OpD X (compareOp op') g') (ha : JE T X E x a) (hb : JE T X E y b) (hm : JE T X E z m)
    (hl : lastMarks [op, op'] [y, z] = false := by with_unfolding_all rfl) : JT T X E (.Compare x [op, op'] [y, z] pos) (wTest (wChain g g' a b m)) := by
  obtain ⟨r, hr, hq⟩ := ho.ex
  obtain ⟨r', hr', hq'⟩ := ho'.ex
  refine ptI (pt_chain hr hr' ha hb hm hl) fun σ H Q ⟨c, wd, env, P, Ex, rl, h, xo, k⟩ => ?_
  refine ⟨c, wd, env, _, Ex, rl, h, xo, fun x1 env1 h1 v wd1 H1 le1 r1 rp1 => ⟨c, wd1, env1, _, Ex, r1, h1, xo, fun y1 env2 h2 u wd2 H2 le2 r2 rp2 => ?_⟩⟩
  obtain ⟨z1, e, h3⟩ := opt_inv h2
  refine hq x1 y1 z1 e T wd2 H2 v u _ r2.good (rp1.mono le2) rp2 fun w wd3 H3 g3 rp3 => ?_
  have le3 := g3.le r2.good
  have r3 := r2.grow g3
  split at h3
  · rename_i t
    cases rp3
    cases t
    · have h3 := br_f h3
      exact ⟨false, rfl, false, rfl, k _ env2 h3 _ wd3 H3 ((le1.trans le2).trans le3) r3 rfl⟩
    have h3 := br_t h3
    refine ⟨true, rfl, ?_⟩
    show lift X.K T (rE X.K) E m σ H3 _
    refine ⟨c, wd3, env2, _, Ex, r3, h3, xo, fun w1 env4 h4 u4 wd4 H4 le4 r4 rp4 => ?_⟩
    obtain ⟨z2, e2, h5⟩ := opt_inv h4
    refine hq' y1 w1 z2 e2 T wd4 H4 u u4 _ r4.good ((rp2.mono le3).mono le4) rp4 fun w5 wd5 H5 g5 rp5 => ?_
    split at h5
    · cases rp5
      exact ⟨_, rfl, k _ env4 h5 _ wd5 H5 ((((le1.trans le2).trans le3).trans le4).trans (g5.le r4.good)) (r4.grow g5) rfl⟩
    · exact h5.elim
  · exact h3.elim
def wIf {α : Type} (t : W Bool) (a b : W α) : W α := t.bind fun x env Q ex => br x (a env Q ex) (b env Q ex)
theorem je_if {t x y : Expr} {w : W Bool} {a b : W D} {pos : Pos} (ht : JT T X E t w) (ha : JE T X E x a) (hb : JE T X E y b) : JE T X E (.IfExp t x y pos) (wIf w a b) :=
  peI (pe_ifExp ht ha hb) fun σ H Q ⟨c, wd, env, P, Ex, rl, h, xo, k⟩ => ⟨c, wd, env, _, Ex, rl, h, xo, fun x1 env1 h1 v wd1 H1 le1 r1 rp1 => by
    obtain rfl : v = x1 := rp1
    cases v with
    | true => exact ⟨c, wd1, env1, P, Ex, r1, br_t h1, xo, fun a1 env2 p b1 wd2 H2 le2 => k a1 env2 p b1 wd2 H2 (le1.trans le2)⟩
    | false => exact ⟨c, wd1, env1, P, Ex, r1, br_f h1, xo, fun a1 env2 p b1 wd2 H2 le2 => k a1 env2 p b1 wd2 H2 (le1.trans le2)⟩⟩
def wNeg (a : W D) : W D := a.bind fun x env Q ex => match x with
  | .int i => Q (.int (-i)) env
  | _ => False
theorem je_neg {x : Expr} {a : W D} {pos : Pos} (ha : JE T X E x a) : JE T X E (.UnaryOp .USub x pos) (wNeg a) :=
  peI (pe_un un_neg ha) fun σ H Q ⟨c, wd, env, P, Ex, rl, h, xo, k⟩ => ⟨c, wd, env, _, Ex, rl, h, xo, fun x1 env1 h1 v wd1 H1 le1 r1 rp1 => by
    dsimp only at h1
    split at h1
    · cases rp1
      exact ⟨_, rfl, k _ env1 h1 _ wd1 H1 le1 r1 (.int _)⟩
    · exact h1.elim⟩
def dIdx : D → D → Option D
  | .tup xs, .int i => atI xs i
  | .lst xs, .int i => atI xs i
  | .scr ns, .int i => (atI ns i).map D.int
  | _, _ => none
theorem atI_reps {K : PySem.W.Frag} {wd : Wd} {vs : List V} {ds : List D} {i : Int} {d : D} (r : Reps K wd vs ds) (h : atI ds i = some d) : ∃ v, atI vs i = some v ∧ Rep K wd v d := by
  unfold atI at h ⊢
  rw [r.length]
  cases e : ixN ds.length i with
  | none =>
    rw [e] at h
    cases h
  | some j =>
    rw [e] at h
    exact r.get h
theorem sub_sqL {K : PySem.W.Frag} {wd : Wd} {H : Hp} {p : Addr} {vs : List V} (g : Good T wd H) (h : wd.M p = some (.lst vs)) : SqL K H p vs := .inl (.inl (g.sub _ _ h))
theorem sub_sqS {K : PySem.W.Frag} {wd : Wd} {H : Hp} {p : Addr} {vs : List V} (g : Good T wd H) (h : SqL K wd.M p vs) : SqL K H p vs := sqL_mono K g.sub h
theorem sub_sqT {K : PySem.W.Frag} {wd : Wd} {H : Hp} {p : Addr} {vs : List V} (g : Good T wd H) (h : wd.M p = some (.tup vs)) : SqT K H p vs := .inl (.inl (g.sub _ _ h))
def wIxOwn (i : Nat) (b : W D) : W D := fun env Q ex => match gt env i with
  | some (.own _) => (b.bind fun y env Q ex => match gt env i with
    | some (.own xs) => ∃ z, dIdx (.lst xs) y = some z ∧ Q z env
    | _ => False) env Q ex
  | _ => False
theorem je_ixOwn (i : Nat) {x : Str} {y : Expr} {b : W D} {pos p1 : Pos} (hb : JE T X E y b) (hs : PlainIx y) (hN : X.N[i]? = some x := by rfl) (hv : Vis X.env.scope x := by first | exact Or.inl rfl | exact Or.inr (Or.inl rfl) | exact Or.inr (Or.inr rfl)) (hd : (x == ("__debug__" : Str)) = false := by decide)
    (hcd : (x == ("__classdict__" : Str)) = false := by decide) : JE T X E (.Subscript (.Name x p1) y pos) (wIxOwn i b) := by
  refine peI (pe_ix ix_list (pe_var hN hv hd hcd) hb hs) fun σ H Q ⟨c, wd, env, P, Ex, rl, h, xo, k⟩ => ?_
  unfold wIxOwn at h
  split at h
  · rename_i xs0 e0
    obtain ⟨p0, vs0, z0, _⟩ := rl.own i xs0 (gt_eq _ _ e0)
    refine ⟨.ref p0, z0, c, wd, env, _, Ex, rl, h, xo, fun y1 env1 h1 u wd1 H1 le1 r1 rp1 => ?_⟩
    dsimp only at h1
    split at h1
    · rename_i xs e1
      obtain ⟨p, vs, z1, z2, z3, z4, z5, z6⟩ := r1.own i xs (gt_eq _ _ e1)
      rw [z0] at z1
      cases z1
      obtain ⟨z, e2, h2⟩ := h1
      cases rp1 <;> first | cases e2 | skip
      obtain ⟨w, e3, r3⟩ := atI_reps z6 e2
      exact ⟨_, vs, _, w, rfl, rfl, .inl (.inl z2), e3, k z env1 h2 w wd1 H1 le1 r1 r3⟩
    · exact h1.elim
  · exact h.elim
abbrev JO (T : List (Addr × Str)) (X : Cx) (E : XK) (e : Option Expr) (w : W (Option Int)) : Prop := PO X e (lift X.K T (fun _ _ _ _ _ b a => b = a) E w)
def wPart (a : W D) : W (Option Int) := a.bind fun x env Q ex => match x with
  | .int i => Q (some i) env
  | _ => False
theorem poI {e : Option Expr} {t t' : TO} (h : PO X e t) (i : ∀ σ H Q, t' σ H Q → t σ H Q) : PO X e t' := ⟨fun pins s σ H Q I q => h.run pins s σ H Q I (i σ H Q q)⟩
theorem jo_none : JO T X E none (W.ret none) := poI po_none fun σ H Q ⟨c, wd, env, P, Ex, r, h, _, k⟩ => k _ env h _ wd H (Le.refl _) r rfl
theorem jo_some {x : Expr} {a : W D} (ha : JE T X E x a) : JO T X E (some x) (wPart a) :=
  poI (po_some ha) fun σ H Q ⟨c, wd, env, P, Ex, rl, h, xo, k⟩ => ⟨c, wd, env, _, Ex, rl, h, xo, fun x1 env1 h1 v wd1 H1 le1 r1 rp1 => by
    dsimp only at h1
    split at h1
    · cases rp1
      exact ⟨_, rfl, k _ env1 h1 _ wd1 H1 le1 r1 rfl⟩
    · exact h1.elim⟩
def cutD {α : Type} (xs : List α) (lo hi : Option Int) : List α := (xs.drop (HT.sIx xs.length 0 lo)).take (HT.sIx xs.length xs.length hi - HT.sIx xs.length 0 lo)
theorem cut_reps {K : PySem.W.Frag} {wd : Wd} {vs : List V} {ds : List D} (r : Reps K wd vs ds) (lo hi : Option Int) : Reps K wd (cutV vs lo hi) (cutD ds lo hi) := by
  unfold cutV cutD
  rw [r.length]
  exact (r.drop _).take _
theorem cut_len (vs : List V) (lo hi : Option Int) : (cutV vs lo hi).length ≤ vs.length := by
  unfold cutV
  rw [List.length_take, List.length_drop]
  omega
theorem siz_sqT {wd : Wd} {H : Hp} {p : Addr} {vs : List V} (g : Good T wd H) (h : wd.M p = some (.tup vs)) : vs.length ≤ sizeLine := (g.ntb _ _ h).2
def wSl (a : W D) (l h : W (Option Int)) : W D := a.bind fun x => l.bind fun lo => h.bind fun hi env Q ex => match x with
  | .tup xs => Q (.tup (cutD xs lo hi)) env
  | .lst xs => Q (.lst (cutD xs lo hi)) env
  | _ => False
theorem je_slice {x : Expr} {lo hi : Option Expr} {a : W D} {l h : W (Option Int)} {p2 pos : Pos} (ha : JE T X E x a) (hl : JO T X E lo l) (hh : JO T X E hi h) : JE T X E (.Subscript x (.Slice lo hi none p2) pos) (wSl a l h) := by
  refine peI (pe_slice (r := fun x lo hi H Q => rSlL X.K x lo hi H Q ∨ rSlA X.K x lo hi H Q) (sl_list.or sl_tupA) ha hl hh) fun σ H Q ⟨c, wd, env, P, Ex, rl, h, xo, k⟩ => ?_
  refine ⟨c, wd, env, _, Ex, rl, h, xo, fun x1 env1 h1 v wd1 H1 le1 r1 rp1 => ⟨c, wd1, env1, _, Ex, r1, h1, xo, fun l1 env2 h2 lv wd2 H2 le2 r2 e2 => ?_⟩⟩
  obtain rfl : lv = l1 := e2
  refine ⟨c, wd2, env2, _, Ex, r2, h2, xo, fun l3 env3 h3 uv wd3 H3 le3 r3 e3 => ?_⟩
  obtain rfl : uv = l3 := e3
  have rp3 := Rep.mono le3 (Rep.mono le2 rp1)
  have le := (le1.trans le2).trans le3
  split at h3
  · cases rp3 with
    | tup hs rs =>
      have hq := sub_sqT (K := X.K) r3.good hs
      refine .inr ⟨_, _, rfl, hq, ?_⟩
      have key : ∀ w wd' H', Grow wd3 H3 wd' H' → Rep X.K wd' w (.tup (cutD _ lv uv)) → Q w H' := fun w wd' H' g rp => k _ env3 h3 w wd' H' (le.trans (g.le r3.good)) (r3.grow g) rp
      have dd : Del X.K wd3 H3 (.tup (cutD _ lv uv)) Q := key
      have rc := cut_reps rs lv uv
      have hz : (cutV _ lv uv).length ≤ sizeLine := Nat.le_trans (cut_len _ lv uv) (siz_sqT r3.good hs)
      refine ⟨fun z => dd.now (.tup hs ?_), fun z p hp => dd.tup r3.good hp rc hz⟩
      have e : cutV _ lv uv = _ := (show cutV _ lv uv = (List.take _ (List.drop _ _)) from rfl).trans (by rw [z.1, z.2, List.drop_zero, Nat.sub_zero, List.take_length])
      rw [e] at rc
      exact rc
  · cases rp3 with
    | lst hs rs =>
      have hq := sub_sqL (K := X.K) r3.good hs
      refine .inl ⟨_, _, rfl, hq, fun p hp => ?_⟩
      have dd : Del X.K wd3 H3 (.lst (cutD _ lv uv)) Q := fun w wd' H' g rp => k _ env3 h3 w wd' H' (le.trans (g.le r3.good)) (r3.grow g) rp
      exact dd.lst r3.good hp (cut_reps rs lv uv) (Nat.le_trans (cut_len _ lv uv) ((r3.good.ntb _ _ hs).2))
  · exact h3.elim
end
end Pd

namespace Pd
open PySem PySem.Spec PyProof.Rows L2 LamX

structure PEnds where
  nx : PEnv → Prop
  rt : D → Prop
  bk : PEnv → Prop := fun _ => False
  ct : PEnv → Prop := fun _ => False
  ex : Xc → Prop := fun _ => False
abbrev WS := PEnds → PEnv → Prop
section
variable (K : PySem.W.Frag) (T : List (Addr × Str))
structure EndsOk (c : Ctx) (wd : Wd) (E : XK) (pe : PEnds) (D : Ends) : Prop where
  ex : XOk K T c E pe.ex
  nx : ∀ env', pe.nx env' → ∀ (σ' : L2.St) (wd' : Wd) (H' : Hp), Le wd wd' → Rel K T c wd' env' σ' H' → D.nx σ' H'
  rt : ∀ d, pe.rt d → ∀ (v : V) (wd' : Wd) (H' : Hp), Ord c.wd wd' c.H → Good T wd' H' → Keep c.wd c.H H' → Rep K wd' v d → D.rt v H'
  bk : ∀ env', pe.bk env' → ∀ (σ' : L2.St) (wd' : Wd) (H' : Hp), Le wd wd' → Rel K T c wd' env' σ' H' → D.bk σ' H'
  ct : ∀ env', pe.ct env' → ∀ (σ' : L2.St) (wd' : Wd) (H' : Hp), Le wd wd' → Rel K T c wd' env' σ' H' → D.ct σ' H'
def liftS (E : XK) (w : WS) : TS := fun D σ H => ∃ (c : Ctx) (wd : Wd) (env : PEnv) (pe : PEnds), Rel K T c wd env σ H ∧ w pe env ∧ EndsOk K T c wd E pe D
end
theorem EndsOk.mono {K : PySem.W.Frag} {T : List (Addr × Str)} {c : Ctx} {wd wd1 : Wd} {E : XK} {pe : PEnds} {D : Ends} (o : EndsOk K T c wd E pe D) (le : Le wd wd1) : EndsOk K T c wd1 E pe D :=
  ⟨o.ex, fun e h σ w H l => o.nx e h σ w H (le.trans l), o.rt, fun e h σ w H l => o.bk e h σ w H (le.trans l), fun e h σ w H l => o.ct e h σ w H (le.trans l)⟩
abbrev JS (T : List (Addr × Str)) (X : Cx) (E : XK) (st : Stmt) (w : WS) : Prop := PS X st (liftS X.K T E w)
abbrev JSs (T : List (Addr × Str)) (X : Cx) (E : XK) (sts : List Stmt) (w : WS) : Prop := PSs X sts (liftS X.K T E w)
structure Bd (X : Cx) (E : XK) (k : Nat) : Prop where
  room : Room k X.A
  pass : Passes (L2.CX X.prog X.w) X E
  own : PassesOwn (model X.prog X.w) X.A X.env X.xe
  calm : X.calm = true
  nd : X.N.Nodup
section
variable {X : Cx} {T : List (Addr × Str)} {E : XK} {k : Nat}
theorem psI {st : Stmt} {t t' : TS} (h : PS X st t) (i : ∀ D σ H, t' D σ H → t D σ H) : PS X st t' := ⟨fun pins s σ H D I q => h.run pins s σ H D I (i D σ H q)⟩
theorem pssI {st : List Stmt} {t t' : TS} (h : PSs X st t) (i : ∀ D σ H, t' D σ H → t D σ H) : PSs X st t' := ⟨fun pins s σ H D I q => h.run pins s σ H D I (i D σ H q)⟩
def sSeq (a b : WS) : WS := fun pe env => a { pe with nx := b pe } env
def sNil : WS := fun pe env => pe.nx env
theorem jss_nil : JSs T X E [] sNil := pssI pss_nil fun D σ H ⟨c, wd, env, pe, r, h, o⟩ => o.nx env h σ wd H (Le.refl _) r
theorem jss_cons {st : Stmt} {sts : List Stmt} {a b : WS} (ha : JS T X E st a) (hb : JSs T X E sts b) : JSs T X E (st :: sts) (sSeq a b) :=
  pssI (pss_cons ha hb) fun D σ H ⟨c, wd, env, pe, r, h, o⟩ => ⟨c, wd, env, _, r, h, ⟨o.ex, fun env' hb σ' wd' H' le r' => ⟨c, wd', env', pe, r', hb, o.mono le⟩, o.rt, o.bk, o.ct⟩⟩
theorem jss_one {st : Stmt} {a : WS} (ha : JS T X E st a) : JSs T X E [st] a := pss_one ha
def sSet (i : Nat) (e : W D) : WS := fun pe env => e env (fun d env' => pe.nx (env'.set i (some (.d d)))) pe.ex
theorem js_set (i : Nat) {x : Str} {e : Expr} {w : W D} {pos pos' : Pos} (B : Bd X E k) (he : JE T X E e w) (hi : X.N[i]? = some x := by rfl) (hx : Loc X.env.scope x := by first | exact Or.inl rfl | exact Or.inr rfl) (hs : swapsWith e (some (.Name x pos')) pos.line X.env = pure false := by rfl)
    (hf : X.fn x = true ∨ X.env.scope.names.lookup x = some .local := by first | exact .inl rfl | exact .inr rfl) : JS T X E (.Assign [.Name x pos'] e pos) (sSet i w) :=
  psI (ps_set B.nd hi hx he hs hf) fun D σ H ⟨c, wd, env, pe, r, h, o⟩ => ⟨c, wd, env, _, _, r, h, o.ex, fun d env' h' v wd' H' le r' rp => o.nx _ h' _ wd' H' le (r'.set rp)⟩
def sSetOwn (i : Nat) (e : W (List D)) : WS := fun pe env => e env (fun xs env' => pe.nx (env'.set i (some (.own xs)))) pe.ex
theorem Rel.ownF {K : PySem.W.Frag} {c : Ctx} {wd : Wd} {env : PEnv} {σ : L2.St} {H : Hp} (r : Rel K T c wd env σ H) {i : Nat} {v : V} {xs : List D} (f : rF K c wd env σ H v xs) : Rel K T c wd (env.set i (some (.own xs))) (σ.set i (some v)) H := by
  obtain ⟨p, vs, rfl, h1, h2, h3, h4, h5, h6, h7⟩ := f
  refine ⟨r.ord, r.good, r.keep, by simp [r.len], fun j y e => ?_, fun j ys e => ?_, fun j l as bs q e1 e2 e3 e4 => ?_, fun q hq => ?_, r.ext.sl (fun j s e n1 n2 => ?_) fun j ys e => ?_⟩
  · rcases get_set e with ⟨rfl, e, hl⟩ | ⟨ne, e⟩
    · cases e
    · obtain ⟨w, z1, z2⟩ := r.dat j y e
      exact ⟨w, by rw [List.getElem?_set_ne ne]; exact z1, z2⟩
  · rcases get_set e with ⟨rfl, e, hl⟩ | ⟨ne, e⟩
    · cases e
      rw [r.len] at hl
      exact ⟨p, vs, List.getElem?_set_self hl, h1, h2, h3, h4, h5⟩
    · obtain ⟨q, us, z1, z2⟩ := r.own j ys e
      exact ⟨q, us, by rw [List.getElem?_set_ne ne]; exact z1, z2⟩
  · rcases get_set e1 with ⟨rfl, e, hl⟩ | ⟨ne1, e1⟩
    · rcases get_set e2 with ⟨rfl, e, hl⟩ | ⟨ne2, e2⟩
      · rfl
      · rw [r.len] at hl
        rw [List.getElem?_set_self hl] at e3
        cases e3
        rw [List.getElem?_set_ne ne2] at e4
        exact absurd e4 (h6.o _ _ e2)
    · rcases get_set e2 with ⟨rfl, e, hl⟩ | ⟨ne2, e2⟩
      · rw [r.len] at hl
        rw [List.getElem?_set_self hl] at e4
        cases e4
        rw [List.getElem?_set_ne ne1] at e3
        exact absurd e3 (h6.o _ _ e1)
      · rw [List.getElem?_set_ne ne1] at e3
        rw [List.getElem?_set_ne ne2] at e4
        exact r.sep j l as bs q e1 e2 e3 e4
  · obtain ⟨z1, z2, z3, z4⟩ := r.pin q hq
    refine ⟨z1, z2, z3, fun j ys e => ?_, z4.c.set_d fun _ z => nomatch z⟩
    rcases get_set e with ⟨rfl, e, hl⟩ | ⟨ne, e⟩
    · rw [r.len] at hl
      rw [List.getElem?_set_self hl]
      intro z
      exact h7 q hq (by cases z; rfl)
    · rw [List.getElem?_set_ne ne]
      exact z4.o j ys e
  · rcases get_set e with ⟨rfl, e, hl⟩ | ⟨ne, e⟩
    · cases e
      exact absurd rfl (n2 _)
    · exact ⟨e, List.getElem?_set_ne ne⟩
  · rcases get_set e with ⟨rfl, e, hl⟩ | ⟨ne, e⟩
    · rw [r.len] at hl
      exact .inr ⟨p, List.getElem?_set_self hl, h6.c⟩
    · exact .inl ⟨ys, e, List.getElem?_set_ne ne⟩
theorem js_setOwn (i : Nat) {x : Str} {e : Expr} {w : W (List D)} {pos pos' : Pos} (B : Bd X E k) (he : JF T X E e w) (hi : X.N[i]? = some x := by rfl) (hx : Loc X.env.scope x := by first | exact Or.inl rfl | exact Or.inr rfl) (hs : swapsWith e (some (.Name x pos')) pos.line X.env = pure false := by rfl)
    (hf : X.fn x = true ∨ X.env.scope.names.lookup x = some .local := by first | exact .inl rfl | exact .inr rfl) : JS T X E (.Assign [.Name x pos'] e pos) (sSetOwn i w) :=
  psI (ps_set B.nd hi hx he hs hf) fun D σ H ⟨c, wd, env, pe, r, h, o⟩ => ⟨c, wd, env, _, _, r, h, o.ex, fun xs env' h' v wd' H' le r' f => o.nx _ h' _ wd' H' le (r'.ownF f)⟩
def sRet (e : W D) : WS := fun pe env => e env (fun d _ => pe.rt d) pe.ex
theorem js_ret {e : Expr} {w : W D} {pos : Pos} (he : JE T X E e w) : JS T X E (.Return (some e) pos) (sRet w) :=
  psI (ps_ret he) fun D σ H ⟨c, wd, env, pe, r, h, o⟩ => ⟨c, wd, env, _, _, r, h, o.ex, fun d env' h' v wd' H' le r' rp => o.rt d h' v wd' H' r'.ord r'.good r'.keep rp⟩
def sDrop (e : W D) : WS := fun pe env => e env (fun _ env' => pe.nx env') pe.ex
theorem js_expr {e : Expr} {w : W D} {pos : Pos} (he : JE T X E e w) (hs : swapsWith e none pos.line X.env = pure false := by rfl) : JS T X E (.Expr e pos) (sDrop w) :=
  psI (ps_expr he hs) fun D σ H ⟨c, wd, env, pe, r, h, o⟩ => ⟨c, wd, env, _, _, r, h, o.ex, fun d env' h' v wd' H' le r' rp => o.nx _ h' _ wd' H' le r'⟩
def sIf (t : W Bool) (a b : WS) : WS := fun pe env => t env (fun x env' => br x (a pe env') (b pe env')) pe.ex
theorem js_if {t : Expr} {x y : List Stmt} {w : W Bool} {a b : WS} {pos : Pos} (ht : JT T X E t w) (ha : JSs T X E x a) (hb : JSs T X E y b) : JS T X E (.If t x y pos) (sIf w a b) :=
  psI (ps_if ht ha hb) fun D σ H ⟨c, wd, env, pe, r, h, o⟩ => ⟨c, wd, env, _, _, r, h, o.ex, fun d env' h' v wd' H' le r' rp => by
    obtain rfl : v = d := rp
    cases v with
    | true => exact ⟨c, wd', env', pe, r', br_t h', o.mono le⟩
    | false => exact ⟨c, wd', env', pe, r', br_f h', o.mono le⟩⟩
def sAug (i : Nat) (g : D → D → Option D) (e : W D) : WS := fun pe env => match gt env i with
  | some (.d x) => e env (fun y env' => match g x y with
    | some z => pe.nx (env'.set i (some (.d z)))
    | none => False) pe.ex
  | _ => False
def OpDI (X : Cx) (op : Operator) (g : D → D → Option D) : Prop := ∃ r : TIp, PIp X op r ∧ ∀ (x y z : D), g x y = some z → ∀ (T : List (Addr × Str)) (wd : Wd) (H : Hp) (v u : V) (Q : VK), Good T wd H → Rep X.K wd v x → Rep X.K wd u y → Del X.K wd H z Q → r v u H Q
theorem js_aug (i : Nat) {x : Str} {e : Expr} {w : W D} {op : Operator} {g : D → D → Option D} {pos pos' : Pos} (B : Bd X E k) (ho : OpDI X op g) (he : JE T X E e w) (hi : X.N[i]? = some x := by rfl) (hx : Loc X.env.scope x := by first | exact Or.inl rfl | exact Or.inr rfl)
    (hf : X.fn x = true ∨ X.env.scope.names.lookup x = some .local := by first | exact .inl rfl | exact .inr rfl) : JS T X E (.AugAssign (.Name x pos') op e pos) (sAug i g w) := by
  obtain ⟨ti, h1, h2⟩ := ho
  refine psI (ps_aug B.nd hi hx he h1 hf) fun D σ H ⟨c, wd, env, pe, r, h, o⟩ => ?_
  unfold sAug at h
  split at h
  · rename_i x0 e0
    obtain ⟨v, z1, z2⟩ := r.dat i x0 (gt_eq _ _ e0)
    refine ⟨v, z1, c, wd, env, _, _, r, h, o.ex, fun y env' h' u wd' H' le r' rp => ?_⟩
    split at h'
    · rename_i z e2
      exact h2 x0 y z e2 T wd' H' v u _ r'.good (z2.mono le) rp fun w wd3 H3 g3 rp3 => o.nx _ h' _ wd3 H3 (le.trans (g3.le r'.good)) ((r'.grow g3).set rp3)
    · exact h'.elim
  · exact h.elim
def sWhile (t : W Bool) (b : WS) : WS := fun pe env => ∃ I : Nat → PEnv → Prop, (∃ m, I m env) ∧ ∀ m env, I m env → t env (fun x env1 => br x (b { pe with nx := fun env2 => ∃ m', m' < m ∧ I m' env2, ct := fun env2 => ∃ m', m' < m ∧ I m' env2, bk := pe.nx } env1) (pe.nx env1)) pe.ex
theorem js_while {t : Expr} {body : List Stmt} {w : W Bool} {b : WS} {pos : Pos} (B : Bd X E k) (ht : JT T X E t w) (hb : JSs T X E body b) : JS T X E (.While t body [] pos) (sWhile w b) :=
  psI (ps_while B.own ht hb) fun D σ H ⟨c, wd, env, pe, r, h, o⟩ => by
    obtain ⟨I, ⟨m0, i0⟩, hs⟩ := h
    refine ⟨fun m σ' H' => ∃ wd' env', Le wd wd' ∧ Rel X.K T c wd' env' σ' H' ∧ I m env', ⟨m0, wd, env, Le.refl _, r, i0⟩, fun m σ' H' ⟨wd', env', le, r', im⟩ => ?_⟩
    refine ⟨c, wd', env', _, _, r', hs m env' im, o.ex, fun x env1 h1 v wd1 H1 le1 r1 rp1 => ?_⟩
    obtain rfl : v = x := rp1
    cases v with
    | true =>
      refine ⟨fun σ2 H2 => ∃ m', m' < m ∧ ∃ wd2 env2, Le wd wd2 ∧ Rel X.K T c wd2 env2 σ2 H2 ∧ I m' env2, fun σ2 H2 q => q, ?_⟩
      refine ⟨c, wd1, env1, _, r1, br_t h1, ⟨o.ex, fun env2 ⟨m', lt, i2⟩ σ2 wd2 H2 le2 r2 => ⟨m', lt, wd2, env2, (le.trans le1).trans le2, r2, i2⟩, o.rt, fun env2 q σ2 wd2 H2 le2 r2 => o.nx env2 q σ2 wd2 H2 ((le.trans le1).trans le2) r2, fun env2 ⟨m', lt, i2⟩ σ2 wd2 H2 le2 r2 => ⟨m', lt, wd2, env2, (le.trans le1).trans le2, r2, i2⟩⟩⟩
    | false => exact o.nx env1 (br_f h1) σ' wd1 H1 (le.trans le1) r1
abbrev WG := D → PEnv → (PEnv → Prop) → Prop
def liftG (K : PySem.W.Frag) (T : List (Addr × Str)) (vs : List Nat) (w : WG) : TG := fun v σ H Q => ∃ (c : Ctx) (wd : Wd) (env : PEnv) (d : D) (P : PEnv → Prop), Rel K T c wd env σ H ∧ Rep K wd v d ∧ w d env P ∧ ∀ env', P env' → ∀ σ', Rel K T c wd env' σ' H → wipe σ' vs = wipe σ vs → Q σ' H
abbrev JG (T : List (Addr × Str)) (X : Cx) (vs : List Nat) (tg : Expr) (w : WG) : Prop := PG X tg (liftG X.K T vs w)
theorem pgI {tg : Expr} {t t' : TG} (h : PG X tg t) (i : ∀ v σ H Q, t' v σ H Q → t v σ H Q) : PG X tg t' := ⟨fun pins s σ H v u Q I r q => h.run pins s σ H v u Q I r (i v σ H Q q)⟩
theorem wipe_set {σ : L2.St} {i : Nat} {x : Option V} : ∀ {vs : List Nat}, i ∈ vs → wipe (σ.set i x) vs = wipe σ vs
  | [], h => by cases h
  | v :: vs, h => by
    show (wipe (σ.set i x) vs).set v none = (wipe σ vs).set v none
    by_cases hv : i ∈ vs
    · rw [wipe_set hv]
    · have e : v = i := by
        rcases List.mem_cons.mp h with z | z
        · exact z.symm
        · exact absurd z hv
      subst e
      have key : ∀ {us : List Nat}, v ∉ us → wipe (σ.set v x) us = (wipe σ us).set v x := fun {us} => by
        induction us with
        | nil => intro _; rfl
        | cons u us ih =>
          intro hn
          have h1 : v ≠ u := fun z => hn (by rw [z]; exact List.mem_cons_self)
          have h2 := ih fun z => hn (List.mem_cons_of_mem _ z)
          show (wipe (σ.set v x) us).set u none = ((wipe σ us).set u none).set v x
          rw [h2, List.set_comm _ _ h1]
      rw [key hv, List.set_set]
def gNm (i : Nat) : WG := fun d env Q => Q (env.set i (some (.d d)))
theorem jg_name (i : Nat) {x : Str} {pos : Pos} {vs : List Nat} (nd : X.N.Nodup) (hv : i ∈ vs := by decide) (hi : X.N[i]? = some x := by rfl) (hx : Loc X.env.scope x := by first | exact Or.inl rfl | exact Or.inr rfl) (hf : X.fn x = true ∨ X.env.scope.names.lookup x = some .local := by first | exact .inl rfl | exact .inr rfl) : JG T X vs (.Name x pos) (gNm i) :=
  pgI (pg_name nd hi hx hf) fun v σ H Q ⟨c, wd, env, d, P, r, rp, h, k⟩ => k _ h _ (r.set rp) (wipe_set hv)
abbrev WGs := List D → PEnv → (PEnv → Prop) → Prop
def liftGs (K : PySem.W.Frag) (T : List (Addr × Str)) (us : List Nat) (w : WGs) : TGs := fun vs σ H Q => ∃ (c : Ctx) (wd : Wd) (env : PEnv) (ds : List D) (P : PEnv → Prop), Rel K T c wd env σ H ∧ Reps K wd vs ds ∧ w ds env P ∧ ∀ env', P env' → ∀ σ', Rel K T c wd env' σ' H → wipe σ' us = wipe σ us → Q σ' H
abbrev JGs (T : List (Addr × Str)) (X : Cx) (us : List Nat) (ts : List Expr) (w : WGs) : Prop := PGs X ts (liftGs X.K T us w)
theorem pgsI {ts : List Expr} {t t' : TGs} (h : PGs X ts t) (i : ∀ v σ H Q, t' v σ H Q → t v σ H Q) : PGs X ts t' := ⟨fun pins s σ H v u Q I r q => h.run pins s σ H v u Q I r (i v σ H Q q)⟩
def gsNil : WGs := fun ds env Q => match ds with
  | [] => Q env
  | _ => False
def gsCons (g : WG) (r : WGs) : WGs := fun ds env Q => match ds with
  | d :: ds => g d env fun env' => r ds env' Q
  | _ => False
theorem jgs_nil {us : List Nat} : JGs T X us [] gsNil := pgsI pgs_nil fun vs σ H Q ⟨c, wd, env, ds, P, r, rp, h, k⟩ => by
  cases rp with
  | nil => exact ⟨rfl, k _ h _ r rfl⟩
  | cons _ _ => exact h.elim
theorem jgs_cons {e : Expr} {es : List Expr} {g : WG} {w : WGs} {us : List Nat} (h1 : JG T X us e g) (h2 : JGs T X us es w) (hs : (assignEach (e :: es) X.env).map (·.2) = assign e X.env :: (assignEach es X.env).map (·.2) := by rfl) : JGs T X us (e :: es) (gsCons g w) :=
  pgsI (pgs_cons h1 h2 hs) fun vs σ H Q ⟨c, wd, env, ds, P, r, rp, h, k⟩ => by
    cases rp with
    | nil => exact h.elim
    | cons a b => exact ⟨_, _, rfl, c, wd, env, _, _, r, a, h, fun env' h' σ' r' e' => ⟨c, wd, env', _, P, r', b, h', fun env2 h2 σ2 r2 e2 => k env2 h2 σ2 r2 (e2.trans e')⟩⟩
def gTupP (w : WGs) (n : Nat) : WG := fun d env Q => match d with
  | .tup xs => xs.length = n ∧ w xs env Q
  | _ => False
theorem jg_tup {es : List Expr} {kk : Nat} {w : WGs} {n : Nat} {pos : Pos} {us : List Nat} (hc : X.calm = true) (h : JGs T X us es w) (hn : (assignEach es X.env).length = n := by rfl) (hst : (assignEach es X.env).findIdx? (·.1) = none := by rfl) : JG T X us (.Tuple es kk pos) (gTupP w n) :=
  pgI (pg_tup hc h hn hst) fun v σ H Q ⟨c, wd, env, d, P, r, rp, h, k⟩ => by
    unfold gTupP at h
    split at h
    · cases rp with
      | tup hs rs => exact ⟨_, _, rfl, sub_sqT r.good hs, by rw [rs.length]; exact h.1, c, wd, env, _, P, r, rs, h.2, k⟩
    · exact h.elim
def sAsg (e : W D) (g : WG) : WS := fun pe env => e env (fun d env' => g d env' pe.nx) pe.ex
theorem js_asg {tg e : Expr} {w : W D} {g : WG} {pos : Pos} {us : List Nat} (he : JE T X E e w) (hg : JG T X us tg g) (hs : swapsWithSole [tg] e pos.line X.env = pure false := by rfl) (hw : swappedStores [tg] e X.env = pure none := by rfl)
    (h1 : (assignEach [tg] X.env).map (·.2) = [assign tg X.env] := by rfl) : JS T X E (.Assign [tg] e pos) (sAsg w g) :=
  psI (ps_asg he hg hs hw h1) fun D σ H ⟨c, wd, env, pe, r, h, o⟩ => ⟨c, wd, env, _, _, r, h, o.ex, fun d env' h' v wd' H' le r' rp => ⟨c, wd', env', d, _, r', rp, h', fun env2 h2 σ' r2 _ => o.nx env2 h2 σ' wd' H' le r2⟩⟩
end
end Pd

namespace Pd
open PySem PySem.Spec PyProof.Rows L2 LamX

section
variable {K : PySem.W.Frag} {T : List (Addr × Str)} {c : Ctx} {wd : Wd} {env : PEnv} {σ : L2.St} {H : Hp}
theorem Ext.addT (x : Ext K c wd env σ H) {p : Addr} {vs : List V} (hm : wd.M p = none) (h : H p = some (.tup vs)) : Ext K c (wd.add p (.tup vs)) env σ H := by
  have le : Le wd (wd.add p (.tup vs)) := Le.add hm
  refine ⟨fun i p0 C fs e => ?_, x.ob1, fun i cs e q hq => ?_, x.cnd, x.ce1, fun i lk kvs e => ?_, x.dc1⟩
  · obtain ⟨dx, us, h1, h2, h3, h4, h5, h6⟩ := x.obj i p0 C fs e
    refine ⟨dx, us, h1, h2, upd_none h3 (fun z => ?_), h4, h5, h6.mono le⟩
    rw [z, h] at h2
    cases h2
  · obtain ⟨⟨us, h1, h2⟩, h3, h4, h5, h6⟩ := x.cel i cs e q hq
    refine ⟨⟨us, h1, h2.mono le⟩, upd_none h3 (fun z => ?_), h4, h5, h6⟩
    rw [z, h] at h1
    cases h1
  · obtain ⟨p0, us, h1, h2, h3, h4, h5, h6⟩ := x.dct i lk kvs e
    refine ⟨p0, us, h1, h2, upd_none h3 (fun z => ?_), h4, h5, h6.mono le⟩
    rw [z, h] at h2
    exact lk_tup h2
theorem Rel.known (r : Rel K T c wd env σ H) {p : Addr} {vs : List V} (h : H p = some (.tup vs)) : ∃ wd', Le wd wd' ∧ Rel K T c wd' env σ H ∧ wd'.M p = some (.tup vs) := by
  cases hm : wd.M p with
  | some o =>
    have := r.good.sub p o hm
    rw [h] at this
    exact ⟨wd, Le.refl _, r, by rw [hm]; exact this.symm⟩
  | none =>
    have le : Le wd (wd.add p (.tup vs)) := Le.add hm
    have uq : ∀ {a : Addr} {o : HO}, (wd.add p (.tup vs)).M a = some o → (a = p ∧ o = .tup vs) ∨ wd.M a = some o := fun {a o} z => by
      by_cases ha : a = p
      · subst ha
        have z' : upd wd.M a (.tup vs) a = some o := z
        rw [upd_same] at z'
        cases z'
        exact .inl ⟨rfl, rfl⟩
      · have z' : upd wd.M p (.tup vs) a = some o := z
        rw [upd_ne ha] at z'
        exact .inr z'
    have nl : ∀ {a : Addr} {us : List V}, H a = some (.lst us) → a ≠ p := fun {a us} e z => by
      rw [z, h] at e
      cases e
    refine ⟨_, le, ⟨⟨r.ord.le.trans le, fun a o z => ?_, r.ord.fb⟩, ⟨fun a o z => ?_, fun a o z => ?_, fun b hb => ?_, r.good.tab, r.good.siz⟩, r.keep, r.len, fun i d z => ?_, fun i ys z => ?_, r.sep, fun q hq => ?_, r.ext.addT hm h⟩, upd_same⟩
    · rcases uq z with ⟨rfl, rfl⟩ | z
      · exact .inr (.inr ⟨vs, rfl⟩)
      · exact r.ord.fm a o z
    · rcases uq z with ⟨rfl, rfl⟩ | z
      · exact h
      · exact r.good.sub a o z
    · rcases uq z with ⟨rfl, rfl⟩ | z
      · exact ⟨noTb_tup, r.good.siz _ _ h⟩
      · exact r.good.ntb a o z
    · obtain ⟨z1, z2⟩ := r.good.box b hb
      refine ⟨?_, z2⟩
      obtain ⟨_, _, _, e, _⟩ := z2
      exact upd_none z1 (nl e)
    · obtain ⟨v, z1, z2⟩ := r.dat i d z
      exact ⟨v, z1, z2.mono le⟩
    · obtain ⟨q, us, z1, z2, z3, z4, z5, z6⟩ := r.own i ys z
      exact ⟨q, us, z1, z2, upd_none z3 (nl z2), z4, z5, z6.mono le⟩
    · obtain ⟨z1, z2, z3, z4⟩ := r.pin q hq
      exact ⟨z1, upd_none z2 (nl z1), z3, z4⟩
end
section
variable (K : PySem.W.Frag) (T : List (Addr × Str))
def YD (wd : Wd) (d : D) (H : Hp) (v : V) (H' : Hp) : Prop := (H' = H ∧ Rep K wd v d) ∨ (∃ (p : Addr) (vs : List V) (ds : List D), v = .ref p ∧ H p = none ∧ H' = upd H p (.tup vs) ∧ d = .tup ds ∧ Reps K wd vs ds ∧ vs.length ≤ sizeLine) ∨
  ∃ (p : Addr) (vs : List V) (ds : List D), v = .ref p ∧ H p = some (.tup vs) ∧ H' = H ∧ d = .tup ds ∧ Reps K wd vs ds
def WalkD (wd : Wd) (J : It) (xs : List D) : Prop := Walk J xs.length (fun H => Sub wd.M H) (fun i H v H' => ∃ d, xs[i]? = some d ∧ YD K wd d H v H')
def liftI (E : XK) (w : W (List D)) : TI := fun σ H R => ∃ (c : Ctx) (wd : Wd) (env : PEnv) (P : List D → PEnv → Prop) (Ex : Xc → Prop), Rel K T c wd env σ H ∧ w env P Ex ∧ XOk K T c E Ex ∧
  ∀ xs env', P xs env' → ∀ (J : It) (wd' : Wd) (H' : Hp), Le wd wd' → Rel K T c wd' env' σ H' → WalkD K wd' J xs → xs.length ≤ sizeLine → R J H'
end
abbrev JI (T : List (Addr × Str)) (X : Cx) (E : XK) (tg e : Expr) (w : W (List D)) : Prop := PI X tg e (liftI X.K T E w)
section
variable {X : Cx} {T : List (Addr × Str)} {E : XK} {k : Nat} {tg : Expr}
theorem piI {e : Expr} {t t' : TI} (h : PI X tg e t) (i : ∀ σ H R, t' σ H R → t σ H R) : PI X tg e t' := ⟨fun pins s σ H R I q => h.run pins s σ H R I (i σ H R q)⟩
def iSeq (K : PySem.W.Frag) (tl : TE) : TI := fun σ H R => tl σ H fun x H1 => ∃ a, x = .ref a ∧ (((∃ ys, SqL K H1 a ys) ∧ R (Itl K a) H1) ∨ ((∃ ys, SqT K H1 a ys) ∧ R (Itt K a) H1))
theorem pi_seq {l : Expr} {tl : TE} (hl : PE X l tl) : PI X tg l (iSeq X.K tl) := by
  constructor
  intro pins s σ H R I h
  refine thn (hl.run pins s σ H _ I h) ?_
  rintro v s1 ⟨x, H1, J1, r1, a, rfl, q⟩
  cases r1
  have fp1 : ∀ b ∈ [s1.heap.objs.size], FpOk X pins H1 b := fun b hb => by
    rw [List.mem_singleton.mp hb]
    exact J1.fpOk (Nat.le_refl _) (J1.hok.fresh (Nat.le_refl _))
  rcases q with ⟨⟨ys, hy⟩, q⟩ | ⟨⟨ys, hy⟩, q⟩
  · obtain ⟨us, ru, pu, _⟩ := J1.list hy
    exact wpAny_pyIter_list pu.isList ⟨_, [_], _, _, H1, rfl, J1.kept (t' := s1.toks) fun b o z => Heap.get?_push_of_some _ z, turn_list a _, ⟨_, Heap.get?_push_size _ rfl, rfl, rfl⟩, fp1, q⟩
  · obtain ⟨us, ru, pu, _⟩ := J1.tuple hy
    exact wpAny_pyIter_tuple (show s1.heap.IsTuple a us.toArray from pu) ⟨_, [_], _, _, H1, rfl, J1.kept (t' := s1.toks) fun b o z => Heap.get?_push_of_some _ z, turn_tuple a _, ⟨_, Heap.get?_push_size _ rfl, rfl, rfl⟩, fp1, q⟩
def wItems (a : W D) : W (List D) := a.bind fun x env Q _ => match x with
  | .tup xs => Q xs env
  | .lst xs => Q xs env
  | _ => False
theorem walkD_list {K : PySem.W.Frag} {wd : Wd} {a : Addr} {vs : List V} {xs : List D} (h : wd.M a = some (.lst vs)) (r : Reps K wd vs xs) : WalkD K wd (Itl K a) xs := by
  unfold WalkD
  rw [← r.length]
  refine (walk_list (K := K) (a := a) (xs := vs)).mono (fun H z => .inl (.inl (z _ _ h))) fun i H x H' hi z y => ?_
  obtain ⟨rfl, e⟩ := y
  obtain ⟨d, e1, r1⟩ := r.getV e
  exact ⟨d, e1, .inl ⟨rfl, r1⟩⟩
theorem walkD_tup {K : PySem.W.Frag} {wd : Wd} {a : Addr} {vs : List V} {xs : List D} (h : wd.M a = some (.tup vs)) (r : Reps K wd vs xs) : WalkD K wd (Itt K a) xs := by
  have h : SqT K wd.M a vs := .inl (.inl h)
  unfold WalkD
  rw [← r.length]
  refine (walk_tup (K := K) (a := a) (xs := vs)).mono (fun H z => sqT_mono K z h) fun i H x H' hi z y => ?_
  obtain ⟨rfl, e⟩ := y
  obtain ⟨d, e1, r1⟩ := r.getV e
  exact ⟨d, e1, .inl ⟨rfl, r1⟩⟩
theorem ji_seq {e : Expr} {w : W D} (he : JE T X E e w) : JI T X E tg e (wItems w) :=
  piI (pi_seq he) fun σ H R ⟨c, wd, env, P, Ex, r, h, xo, kk⟩ => ⟨c, wd, env, _, Ex, r, h, xo, fun x env1 h1 v wd1 H1 le1 r1 rp1 => by
    dsimp only at h1
    split at h1
    · cases rp1 with
      | tup hs rs =>
        have hq := sub_sqT (K := X.K) r1.good hs
        exact ⟨_, rfl, .inr ⟨⟨_, hq⟩, kk _ env1 h1 _ wd1 H1 le1 r1 (walkD_tup hs rs) (by rw [← rs.length]; exact siz_sqT r1.good hs)⟩⟩
    · cases rp1 with
      | lst hs rs =>
        have hq := sub_sqL (K := X.K) r1.good hs
        exact ⟨_, rfl, .inl ⟨⟨_, hq⟩, kk _ env1 h1 _ wd1 H1 le1 r1 (walkD_list hs rs) (by rw [← rs.length]; exact (r1.good.ntb _ _ hs).2)⟩⟩
    · exact h1.elim⟩
def upTo (lo hi : Int) : List D := (List.range (hi - lo).toNat).map fun (i : Nat) => D.int (lo + i)
theorem walkD_range {K : PySem.W.Frag} {wd : Wd} {lo hi : Int} : WalkD K wd (Itr lo (hi - lo).toNat) (upTo lo hi) := by
  unfold WalkD upTo
  rw [List.length_map, List.length_range]
  refine (walk_range (lo := lo) (n := (hi - lo).toNat)).mono (fun H z => trivial) fun i H x H' hl z y => ?_
  obtain ⟨rfl, rfl⟩ := y
  refine ⟨_, ?_, .inl ⟨rfl, .int _⟩⟩
  rw [List.getElem?_map, List.getElem?_range hl]
  rfl
def wRng1 (a : W D) : W (List D) := a.bind fun x env Q _ => match x with
  | .int j => j ≤ 1000000 ∧ -1000000 ≤ j ∧ Q (upTo 0 j) env
  | _ => False
theorem upTo_len {lo hi : Int} (h : hi - lo ≤ 2000000) : (upTo lo hi).length ≤ sizeLine := by
  unfold upTo
  rw [List.length_map, List.length_range]
  have : sizeLine = 16777216 := by decide
  omega
theorem ji_range1 {e : Expr} {w : W D} {p pos : Pos} (hg : Gl X "range") (hm : X.mg "range" = none) (he : JE T X E e w) (hs : starEach [e] X.env = [(false, eval e X.env)] := by rfl) : JI T X E tg (.Call (.Name "range" p) [e] [] pos) (wRng1 w) :=
  piI (pi_range1 hg hm (pa_cons he pa_nil hs) hs) fun σ H R ⟨c, wd, env, P, Ex, r, h, xo, kk⟩ => ⟨c, wd, env, _, Ex, r, h, xo, fun x env1 h1 v wd1 H1 le1 r1 rp1 => by
    dsimp only at h1
    split at h1
    · rename_i j
      cases rp1
      refine ⟨_, rfl, by omega, by omega, ?_⟩
      have e0 : Itr 0 j.toNat = Itr 0 (j - 0).toNat := by rw [Int.sub_zero]
      rw [e0]
      exact kk _ env1 h1.2.2 _ wd1 H1 le1 r1 walkD_range (upTo_len (by omega))
    · exact h1.elim⟩
def zipD (xs ys : List D) : List D := (xs.zip ys).map fun q => .tup [q.1, q.2]
def wZip (a b : W D) : W (List D) := a.bind fun x => b.bind fun y env Q _ => match x, y with
  | .tup xs, .tup ys => Q (zipD xs ys) env
  | .lst xs, .lst ys => Q (zipD xs ys) env
  | _, _ => False
theorem zipD_len (xs ys : List D) : (zipD xs ys).length = min xs.length ys.length := by
  unfold zipD
  rw [List.length_map, List.length_zip]
theorem yd_pair {K : PySem.W.Frag} {wd : Wd} {xs ys : List D} {us vs : List V} {i : Nat} {H H' : Hp} {x : V} (ru : Reps K wd us xs) (rv : Reps K wd vs ys) (y : YPair (fun i => us[i]?) (fun i => vs[i]?) i H x H') :
    ∃ d, (zipD xs ys)[i]? = some d ∧ YD K wd d H x H' := by
  obtain ⟨p, a, b, rfl, hp, rfl, e1, e2⟩ := y
  obtain ⟨d1, f1, r1⟩ := ru.getV e1
  obtain ⟨d2, f2, r2⟩ := rv.getV e2
  refine ⟨.tup [d1, d2], ?_, .inr (.inl ⟨p, [a, b], [d1, d2], rfl, hp, rfl, rfl, .cons r1 (.cons r2 .nil), by show 2 ≤ sizeLine; decide⟩)⟩
  unfold zipD
  rw [List.getElem?_map, List.getElem?_zip_eq_some.mpr (show xs[i]? = some ((d1, d2) : D × D).1 ∧ ys[i]? = some ((d1, d2) : D × D).2 from ⟨f1, f2⟩)]
  rfl
theorem ji_zip {e f : Expr} {w u : W D} {p pos tpos : Pos} {elts : List Expr} {kk : Nat} (hg : Gl X "zip") (hm : X.mg "zip" = none) (he : JE T X E e w) (hf : JE T X E f u) (hs : starEach [e, f] X.env = (false, eval e X.env) :: starEach [f] X.env := by rfl)
    (hs2 : starEach [f] X.env = (false, eval f X.env) :: starEach [] X.env := by rfl) (hpl : (backTo pos (starEach [f] X.env)).any (·.1) = false := by rfl) : JI T X E (.Tuple elts kk tpos) (.Call (.Name "zip" p) [e, f] [] pos) (wZip w u) :=
  piI (RZ.pi_zipA hg hm (pa_cons he (pa_cons hf pa_nil hs2) hs) hs hpl) fun σ H R ⟨c, wd, env, P, Ex, r, h, xo, kk⟩ => ⟨c, wd, env, _, Ex, r, h, xo, fun x env1 h1 v wd1 H1 le1 r1 rp1 => ⟨c, wd1, env1, _, Ex, r1, h1, xo, fun y env2 h2 u wd2 H2 le2 r2 rp2 => by
    have rp1 := Rep.mono le2 rp1
    dsimp only at h2
    split at h2
    · rename_i xs ys
      cases rp1 with
      | tup hs1 rs1 =>
        cases rp2 with
        | tup hs2 rs2 =>
          have q1 := sub_sqT (K := X.K) r2.good hs1
          refine ⟨_, _, _, _, rfl, .inr ⟨q1, sub_sqT r2.good hs2, kk _ env2 h2 _ wd2 H2 (le1.trans le2) r2 ?_ ?_⟩⟩
          · unfold WalkD
            rw [zipD_len, ← rs1.length, ← rs2.length]
            refine ⟨fun i H hi z => ?_, fun H z => ?_, fun i H x H' hi z y => ?_⟩
            · have l1 := Nat.lt_of_lt_of_le hi (Nat.min_le_left _ _)
              have l2 := Nat.lt_of_lt_of_le hi (Nat.min_le_right _ _)
              exact ⟨_, _, _, _, sqT_sub X.K z hs1, sqT_sub X.K z hs2, List.getElem?_eq_getElem l1, List.getElem?_eq_getElem l2⟩
            · exact ⟨_, _, sqT_sub X.K z hs1, sqT_sub X.K z hs2, by omega⟩
            · obtain ⟨p, a, b, e1, e2, e3, e4, e5⟩ := y
              exact yd_pair rs1 rs2 ⟨p, a, b, e1, e2, e3, e4 _ (sqT_sub X.K z hs1), e5 _ (sqT_sub X.K z hs2)⟩
          · rw [zipD_len, ← rs1.length]
            exact Nat.le_trans (Nat.min_le_left _ _) (siz_sqT r2.good hs1)
    · rename_i xs ys
      cases rp1 with
      | lst hs1 rs1 =>
        cases rp2 with
        | lst hs2 rs2 =>
          have q1 := sub_sqL (K := X.K) r2.good hs1
          refine ⟨_, _, _, _, rfl, .inl ⟨q1, sub_sqL r2.good hs2, kk _ env2 h2 _ wd2 H2 (le1.trans le2) r2 ?_ ?_⟩⟩
          · unfold WalkD
            rw [zipD_len, ← rs1.length, ← rs2.length]
            refine ⟨fun i H hi z => ?_, fun H z => ?_, fun i H x H' hi z y => ?_⟩
            · have l1 := Nat.lt_of_lt_of_le hi (Nat.min_le_left _ _)
              have l2 := Nat.lt_of_lt_of_le hi (Nat.min_le_right _ _)
              exact ⟨_, _, _, _, .inl (.inl (z _ _ hs1)), .inl (.inl (z _ _ hs2)), List.getElem?_eq_getElem l1, List.getElem?_eq_getElem l2⟩
            · exact ⟨_, _, .inl (.inl (z _ _ hs1)), .inl (.inl (z _ _ hs2)), by omega⟩
            · obtain ⟨p, a, b, e1, e2, e3, e4, e5⟩ := y
              exact yd_pair rs1 rs2 ⟨p, a, b, e1, e2, e3, e4 _ (.inl (.inl (z _ _ hs1))), e5 _ (.inl (.inl (z _ _ hs2)))⟩
          · rw [zipD_len, ← rs1.length]
            exact Nat.le_trans (Nat.min_le_left _ _) ((r2.good.ntb _ _ hs1).2)
    · exact h2.elim⟩⟩
theorem Rel.item {K : PySem.W.Frag} {c : Ctx} {wd wd1 : Wd} {env : PEnv} {σ : L2.St} {H H' : Hp} {d : D} {v : V} (r : Rel K T c wd1 env σ H) (le : Le wd wd1) (y : YD K wd d H v H') :
    ∃ wd2, Le wd1 wd2 ∧ Rel K T c wd2 env σ H' ∧ Rep K wd2 v d := by
  rcases y with ⟨rfl, rp⟩ | ⟨p, vs, ds, rfl, hp, rfl, rfl, rs, hz⟩ | ⟨p, vs, ds, rfl, hp, rfl, rfl, rs⟩
  · exact ⟨wd1, Le.refl _, r, rp.mono le⟩
  · have l2 : Le wd1 (wd1.add p (.tup vs)) := Le.add (r.good.mnone hp)
    exact ⟨_, l2, r.grow (Grow.one hp noTb_tup hz), .tup upd_same (rs.mono (le.trans l2))⟩
  · obtain ⟨wd2, l2, r2, e⟩ := r.known hp
    exact ⟨wd2, l2, r2, .tup e (rs.mono (le.trans l2))⟩
def forW (g : WG) (b : (PEnv → Prop) → PEnv → Prop) (fin : PEnv → Prop) : List D → PEnv → Prop
  | [], env => fin env
  | x :: xs, env => g x env fun env' => b (forW g b fin xs) env'
def sFor (it : W (List D)) (g : WG) (b : WS) : WS := fun pe env => it env (fun xs env' => forW g (fun nx => b { pe with nx := nx, ct := nx, bk := pe.nx }) pe.nx xs env') pe.ex
theorem js_for {iter : Expr} {body : List Stmt} {w : W (List D)} {g : WG} {b : WS} {pos : Pos} (B : Bd X E k) {us : List Nat} (hi : JI T X E tg iter w) (hg : JG T X us tg g) (hb : JSs T X E body b) (hs : ∀ x, foldedSetIterable iter X.env x = pure x := by intro _; rfl) :
    JS T X E (.For tg iter body [] pos) (sFor w g b) :=
  psI (ps_for B.own B.calm hi hg hb hs) fun D σ H ⟨c, wd, env, pe, r, h, o⟩ => ⟨c, wd, env, _, _, r, h, o.ex, fun xs env1 h1 J wd1 H1 le1 r1 wk hz => by
    refine for_it wk (fun i σ' H' => ∃ wd' env', Le wd1 wd' ∧ Rel X.K T c wd' env' σ' H' ∧ forW g (fun nx => b { pe with nx := nx, ct := nx, bk := pe.nx }) pe.nx (xs.drop i) env') ⟨wd1, env1, Le.refl _, r1, h1⟩ (fun i σ' H' hi ⟨wd', env', le, r', _⟩ => le.m.trans r'.good.sub) ?_ ?_
    · rintro i x σ' H2 H3 hl ⟨wd', env', le, r', f⟩ ⟨d, ed, y⟩
      obtain ⟨wd2, le2, r2, rp⟩ := r'.item le y
      have e : xs.drop i = d :: xs.drop (i + 1) := by
        obtain ⟨hi, e'⟩ := List.getElem?_eq_some_iff.mp ed
        rw [List.drop_eq_getElem_cons hi, e']
      rw [e] at f
      refine ⟨c, wd2, env', d, _, r2, rp, f, fun env2 f2 σ2 r3 _ => ⟨c, wd2, env2, _, r3, f2, ⟨o.ex, ?_, o.rt, ?_, ?_⟩⟩⟩
      · exact fun env3 f3 σ3 wd3 H4 le3 r4 => ⟨wd3, env3, (le.trans le2).trans le3, r4, f3⟩
      · exact fun env3 f3 σ3 wd3 H4 le3 r4 => o.nx env3 f3 σ3 wd3 H4 (((le1.trans le).trans le2).trans le3) r4
      · exact fun env3 f3 σ3 wd3 H4 le3 r4 => ⟨wd3, env3, (le.trans le2).trans le3, r4, f3⟩
    · rintro σ' H2 ⟨wd', env', le, r', f⟩
      rw [List.drop_length] at f
      exact o.nx env' f σ' wd' H2 (le1.trans le) r'⟩
end
end Pd

namespace Pd
open PySem PySem.Spec PyProof.Rows L2 LamX

def wipeE (env : PEnv) : List Nat → PEnv
  | [] => env
  | v :: vs => (wipeE env vs).set v none
def keepD : Option Sl → Option Sl
  | some (.d x) => some (.d x)
  | _ => none
def restE (env0 env : PEnv) : List Nat → PEnv
  | [] => env
  | v :: vs => (restE env0 env vs).set v (keepD (gt env0 v))
def compW (g : WG) (t : W Bool) (e : W D) (vs : List Nat) (Q : List D → PEnv → Prop) : List D → PEnv → List D → Prop
  | [], env, acc => Q acc env
  | x :: xs, env, acc => g x (wipeE env vs) fun env1 => t env1 (fun b env2 => br b (e env2 (fun y env3 => compW g t e vs Q xs env3 (acc ++ [y])) (fun _ => False)) (compW g t e vs Q xs env2 acc)) (fun _ => False)
def wComp (it : W (List D)) (g : WG) (t : W Bool) (e : W D) (vs : List Nat) : W (List D) := it.bind fun xs env Q _ => compW g t e vs (fun ys env' => Q ys (restE env env' vs)) xs env []
theorem wipeE_length (env : PEnv) : ∀ vs, (wipeE env vs).length = env.length
  | [] => rfl
  | v :: vs => by
    show ((wipeE env vs).set v none).length = env.length
    rw [List.length_set, wipeE_length env vs]
theorem wipeE_some {env : PEnv} {i : Nat} {s : Sl} : ∀ {vs : List Nat}, (wipeE env vs)[i]? = some (some s) → env[i]? = some (some s) ∧ i ∉ vs
  | [], h => ⟨h, by simp⟩
  | v :: vs, h => by
    have h' : ((wipeE env vs).set v none)[i]? = some (some s) := h
    rcases get_set h' with ⟨rfl, z, _⟩ | ⟨ne, z⟩
    · cases z
    · obtain ⟨a, b⟩ := wipeE_some z
      exact ⟨a, fun y => (List.mem_cons.mp y).elim (fun y => ne y.symm) b⟩
theorem restE_length (env0 env : PEnv) : ∀ vs, (restE env0 env vs).length = env.length
  | [] => rfl
  | v :: vs => by
    show ((restE env0 env vs).set v _).length = env.length
    rw [List.length_set, restE_length env0 env vs]
theorem restE_some {env0 env : PEnv} {i : Nat} {s : Sl} : ∀ {vs : List Nat}, (restE env0 env vs)[i]? = some (some s) → (i ∈ vs ∧ (∃ x, s = .d x) ∧ env0[i]? = some (some s)) ∨ (i ∉ vs ∧ env[i]? = some (some s))
  | [], h => .inr ⟨by simp, h⟩
  | v :: vs, h => by
    have h' : ((restE env0 env vs).set v (keepD (gt env0 v)))[i]? = some (some s) := h
    rcases get_set h' with ⟨rfl, z, _⟩ | ⟨ne, z⟩
    · left
      cases q : gt env0 v with
      | none =>
        rw [q] at z
        cases z
      | some u =>
        rw [q] at z
        cases u with
        | own xs => cases z
        | obj _ _ _ => cases z
        | cels _ => cases z
        | dct _ _ => cases z
        | d x =>
          have e : s = .d x := (Option.some.inj z).symm
          subst e
          exact ⟨List.mem_cons_self, ⟨x, rfl⟩, gt_eq _ _ q⟩
    · rcases restE_some z with ⟨a, b⟩ | ⟨a, b⟩
      · exact .inl ⟨List.mem_cons_of_mem _ a, b⟩
      · exact .inr ⟨fun y => (List.mem_cons.mp y).elim (fun y => ne y.symm) a, b⟩
theorem wipe_get {σ : L2.St} {i : Nat} : ∀ {vs : List Nat}, i ∉ vs → (wipe σ vs)[i]? = σ[i]?
  | [], _ => rfl
  | v :: vs, h => by
    show ((wipe σ vs).set v none)[i]? = σ[i]?
    rw [List.getElem?_set_ne (fun z => h (by rw [← z]; exact List.mem_cons_self)), wipe_get fun z => h (List.mem_cons_of_mem _ z)]
section
variable {K : PySem.W.Frag} {T : List (Addr × Str)} {c : Ctx} {wd wd' : Wd} {env env' : PEnv} {σ σ' : L2.St} {H H' : Hp}
theorem Rel.wipe (r : Rel K T c wd env σ H) (vs : List Nat) : Rel K T c wd (wipeE env vs) (L2.wipe σ vs) H := by
  refine ⟨r.ord, r.good, r.keep, by rw [wipeE_length, wipe_length]; exact r.len, fun i x e => ?_, fun i xs e => ?_, fun i j xs ys p e1 e2 e3 e4 => ?_, fun q hq => ?_, r.ext.sl (fun i s e _ _ => ⟨(wipeE_some e).1, wipe_get (wipeE_some e).2⟩) fun j ys e => .inl ⟨ys, (wipeE_some e).1, wipe_get (wipeE_some e).2⟩⟩
  · obtain ⟨e, hn⟩ := wipeE_some e
    rw [wipe_get hn]
    exact r.dat i x e
  · obtain ⟨e, hn⟩ := wipeE_some e
    rw [wipe_get hn]
    exact r.own i xs e
  · obtain ⟨e1, h1⟩ := wipeE_some e1
    obtain ⟨e2, h2⟩ := wipeE_some e2
    rw [wipe_get h1] at e3
    rw [wipe_get h2] at e4
    exact r.sep i j xs ys p e1 e2 e3 e4
  · obtain ⟨a, b, d, e⟩ := r.pin q hq
    refine ⟨a, b, d, fun i xs e1 => ?_, fun i cs e1 => e.c i cs (wipeE_some e1).1⟩
    obtain ⟨e1, h1⟩ := wipeE_some e1
    rw [wipe_get h1]
    exact e.o i xs e1
theorem Rel.rest {env0 : PEnv} {wd0 : Wd} {H0 : Hp} {vs : List Nat} (r0 : Rel K T c wd0 env0 σ H0) (le : Le wd0 wd) (r : Rel K T c wd (wipeE env vs) (L2.wipe σ vs) H) : Rel K T c wd (restE env0 env vs) σ H := by
  have inn : ∀ {i : Nat} {s : Sl}, i ∉ vs → env[i]? = some (some s) → (wipeE env vs)[i]? = some (some s) := fun {i s} => by
    induction vs with
    | nil => intro _ h; exact h
    | cons v vs ih =>
      intro hn h
      show ((wipeE env vs).set v none)[i]? = some (some s)
      rw [List.getElem?_set_ne (fun z => hn (by rw [← z]; exact List.mem_cons_self))]
      clear r r0
      have key : ∀ us : List Nat, i ∉ us → (wipeE env us)[i]? = env[i]? := fun us => by
        induction us with
        | nil => intro _; rfl
        | cons u us ih2 =>
          intro hu
          show ((wipeE env us).set u none)[i]? = env[i]?
          rw [List.getElem?_set_ne (fun z => hu (by rw [← z]; exact List.mem_cons_self)), ih2 fun z => hu (List.mem_cons_of_mem _ z)]
      rw [key vs fun z => hn (List.mem_cons_of_mem _ z)]
      exact h
  refine ⟨r.ord, r.good, r.keep, ?_, fun i x e => ?_, fun i xs e => ?_, fun i j xs ys p e1 e2 e3 e4 => ?_, fun q hq => ?_, r.ext.sl (fun i s e n1 n2 => ?_) fun j ys e => ?_⟩
  · have := r.len
    rw [wipeE_length, wipe_length] at this
    rw [restE_length]
    exact this
  · rcases restE_some e with ⟨_, _, e⟩ | ⟨hn, e⟩
    · obtain ⟨v, h1, h2⟩ := r0.dat i x e
      exact ⟨v, h1, h2.mono le⟩
    · obtain ⟨v, h1, h2⟩ := r.dat i x (inn hn e)
      rw [wipe_get hn] at h1
      exact ⟨v, h1, h2⟩
  · rcases restE_some e with ⟨_, ⟨x, z⟩, e⟩ | ⟨hn, e⟩
    · cases z
    · obtain ⟨p, us, h1, h2⟩ := r.own i xs (inn hn e)
      rw [wipe_get hn] at h1
      exact ⟨p, us, h1, h2⟩
  · rcases restE_some e1 with ⟨_, ⟨x, z⟩, e⟩ | ⟨hn1, e1⟩
    · cases z
    · rcases restE_some e2 with ⟨_, ⟨x, z⟩, e⟩ | ⟨hn2, e2⟩
      · cases z
      · exact r.sep i j xs ys p (inn hn1 e1) (inn hn2 e2) (by rw [wipe_get hn1]; exact e3) (by rw [wipe_get hn2]; exact e4)
  · obtain ⟨a, b, d, e⟩ := r.pin q hq
    refine ⟨a, b, d, fun i xs e1 => ?_, fun i cs e1 => ?_⟩
    · rcases restE_some e1 with ⟨_, ⟨x, z⟩, _⟩ | ⟨hn, e1⟩
      · cases z
      · have := e.o i xs (inn hn e1)
        rw [wipe_get hn] at this
        exact this
    · rcases restE_some e1 with ⟨_, ⟨x, z⟩, _⟩ | ⟨hn, e1⟩
      · cases z
      · exact e.c i cs (inn hn e1)
  · rcases restE_some e with ⟨_, ⟨x, z⟩, _⟩ | ⟨hn, e⟩
    · exact absurd z (n1 x)
    · exact ⟨inn hn e, (wipe_get hn).symm⟩
  · rcases restE_some e with ⟨_, ⟨x, z⟩, _⟩ | ⟨hn, e⟩
    · cases z
    · exact .inl ⟨ys, inn hn e, (wipe_get hn).symm⟩
theorem Rel.begin (r : Rel K T c wd env σ H) {p : Addr} (hp : H p = none) : Rel K T { c with pn := (p, []) :: c.pn } wd env σ (upd H p (.lst [])) := by
  obtain ⟨r1, q, vs, e, h1, h2, h3, h4, h5, h6, h7⟩ := r.fresh hp (vs := []) (xs := []) .nil (Nat.zero_le _)
  cases e
  refine ⟨r1.ord, r1.good, r1.keep, r1.len, r1.dat, r1.own, r1.sep, fun q hq => ?_, ⟨r1.ext.obj, r1.ext.ob1, r1.ext.cel, r1.ext.cnd, r1.ext.ce1, r1.ext.dct, r1.ext.dc1⟩⟩
  rcases List.mem_cons.mp hq with rfl | hq
  · exact ⟨upd_same, h2, h3, h6⟩
  · exact r1.pin q hq
theorem Rel.more {p : Addr} {us : List V} {pn : List (Addr × List V)} (r : Rel K T { c with pn := (p, us) :: pn } wd env σ H) (hc : Nt c.H p) (hq : ∀ q ∈ pn, q.1 ≠ p) (y : V) (hz : us.length < sizeLine) : Rel K T { c with pn := (p, us ++ [y]) :: pn } wd env σ (upd H p (.lst (us ++ [y]))) := by
  obtain ⟨h1, h2, h3, h4⟩ := r.pin (p, us) List.mem_cons_self
  have h1 : H p = some (.lst us) := h1
  have h2 : wd.M p = none := h2
  have h3 : p ∉ wd.B := h3
  have h4 : NoOwn env σ p := h4
  have hx : Ext K { c with pn := (p, us ++ [y]) :: pn } wd env σ H := ⟨r.ext.obj, r.ext.ob1, r.ext.cel, r.ext.cnd, r.ext.ce1, r.ext.dct, r.ext.dc1⟩
  refine ⟨r.ord, ⟨fun a o q => ?_, r.good.ntb, fun b hb => ?_, fun q hq => ?_, siz_upd r.good.siz (by show (us ++ [y]).length ≤ sizeLine; rw [List.length_append]; exact hz)⟩, ⟨fun a o q n t => ?_, fun a q => ?_⟩, r.len, r.dat, fun i xs e => ?_, r.sep, fun q hm => ?_, hx.updL h4.c h1⟩
  · rw [upd_ne (show a ≠ p from fun z => by rw [z, h2] at q; cases q)]
    exact r.good.sub a o q
  · obtain ⟨z1, g, s, c', z2, z3⟩ := r.good.box b hb
    exact ⟨z1, g, s, c', by rw [upd_ne (show b ≠ p from fun z => h3 (z ▸ hb))]; exact z2, z3⟩
  · obtain ⟨ps, z1, z2, z3⟩ := r.good.tab q hq
    refine ⟨ps, ?_, z2, fun pos cv hc => ?_⟩
    · rw [upd_ne (show q.1 ≠ p from fun z => by rw [z, h1] at z1; cases z1)]
      exact z1
    · obtain ⟨a, y1, y2⟩ := z3 pos cv hc
      refine ⟨a, y1, ?_⟩
      rw [upd_ne (show a ≠ p from fun z => by rw [z, h1] at y2; cases y2)]
      exact y2
  · have q' : c.H a = some o := q
    rw [upd_ne (show a ≠ p from fun z => hc.no (by rw [← z]; exact q') t)]
    exact r.keep.st a o q n t
  · by_cases ha : a = p
    · subst ha
      exact hc
    · exact r.keep.dm a (q.upd ha)
  · obtain ⟨q, ws, z1, z2, z3⟩ := r.own i xs e
    exact ⟨q, ws, z1, by rw [upd_ne (show q ≠ p from fun z => h4.o i xs e (by rw [← z]; exact z1))]; exact z2, z3⟩
  · rcases List.mem_cons.mp hm with rfl | hm
    · exact ⟨upd_same, h2, h3, h4⟩
    · obtain ⟨a, b, d, e⟩ := r.pin q (List.mem_cons_of_mem _ hm)
      exact ⟨by rw [upd_ne (hq q hm)]; exact a, b, d, e⟩
theorem Rel.done {p : Addr} {us : List V} {pn : List (Addr × List V)} (r : Rel K T { c with pn := (p, us) :: pn } wd env σ H) : Rel K T { c with pn := pn } wd env σ H :=
  ⟨r.ord, r.good, r.keep, r.len, r.dat, r.own, r.sep, fun q hq => r.pin q (List.mem_cons_of_mem _ hq), ⟨r.ext.obj, r.ext.ob1, r.ext.cel, r.ext.cnd, r.ext.ce1, r.ext.dct, r.ext.dc1⟩⟩
end
abbrev JTs (T : List (Addr × Str)) (X : Cx) (E : XK) (ifs : List Expr) (w : W Bool) : Prop := PTs X ifs (lift X.K T rT E w)
section
variable {X : Cx} {T : List (Addr × Str)} {E : XK} {k : Nat} {tg : Expr}
theorem ptsI {es : List Expr} {t t' : TT} (h : PTs X es t) (i : ∀ σ H Q, t' σ H Q → t σ H Q) : PTs X es t' := ⟨fun pins s σ H Q I q => h.run pins s σ H Q I (i σ H Q q)⟩
theorem jts_nil : JTs T X E [] (W.ret true) := ptsI pts_nil fun σ H Q ⟨c, wd, env, P, Ex, r, h, _, k⟩ => k true env h true wd H (Le.refl _) r rfl
theorem jts_one {e : Expr} {w : W Bool} (h : JT T X E e w) : JTs T X E [e] w := pts_one h
theorem xok0 {K : PySem.W.Frag} {c : Ctx} {E : XK} : XOk K T c E (fun _ => False) := fun _ h => h.elim
theorem lc_lift {w : W (List D)} {g : WG} {wt : W Bool} {we : W D} {vs : List Nat} {σ : L2.St} {H : Hp} {Q : VK} (h : lift X.K T (rF X.K) E (wComp w g wt we vs) σ H Q) :
    tLc (liftI X.K T E w) (liftG X.K T vs g) (lift X.K T rT E0 wt) (lift X.K T (rE X.K) E0 we) vs σ H Q := by
  obtain ⟨c, wd, env, P, Ex, r, h, xo, kk⟩ := h
  refine ⟨c, wd, env, _, Ex, r, h, xo, fun xs env1 h1 J wd1 H1 le1 r1 wk hz Dl hD => ?_⟩
  have hc : Nt c.H Dl := r1.keep.dm Dl (Nt.of hD)
  have hq : ∀ q ∈ c.pn, q.1 ≠ Dl := fun q hm z => by
    have := (r1.pin q hm).1
    rw [z, hD] at this
    cases this
  refine lc_it wk (fun i H' => ∃ wd' env' acc us, Le wd1 wd' ∧ Rel X.K T { c with pn := (Dl, us) :: c.pn } wd' (wipeE env' vs) (L2.wipe σ vs) H' ∧ Reps X.K wd' us acc ∧ us.length ≤ i ∧ compW g wt we vs (fun ys env' => P ys (restE env1 env' vs)) (xs.drop i) env' acc)
    ⟨wd1, env1, [], [], Le.refl _, (r1.wipe vs).begin hD, .nil, Nat.le_refl _, h1⟩ (fun i H' hi ⟨wd', env', acc, us, le, r', _⟩ => le.m.trans r'.good.sub) ?_ ?_
  · rintro i x H2 H3 hl ⟨wd', env', acc, us, le, r', ru, hi, f⟩ ⟨d, ed, y⟩
    obtain ⟨wd2, le2, r2, rp⟩ := r'.item le y
    have e : xs.drop i = d :: xs.drop (i + 1) := by
      obtain ⟨hi, e'⟩ := List.getElem?_eq_some_iff.mp ed
      rw [List.drop_eq_getElem_cons hi, e']
    rw [e] at f
    refine ⟨_, wd2, _, d, _, r2, rp, f, fun env2 f2 σ2 r3 ew => ?_⟩
    have ew2 : L2.wipe (L2.wipe σ vs) vs = L2.wipe σ vs := by
      have key : ∀ us : List Nat, (∀ i ∈ us, i ∈ vs) → L2.wipe (L2.wipe σ vs) us = L2.wipe σ vs := fun us => by
        induction us with
        | nil => intro _; rfl
        | cons u us ih =>
          intro hu
          show (L2.wipe (L2.wipe σ vs) us).set u none = L2.wipe σ vs
          rw [ih fun i hi => hu i (List.mem_cons_of_mem _ hi)]
          refine List.ext_getElem? fun j => ?_
          by_cases hj : u = j
          · subst hj
            by_cases hl : u < (L2.wipe σ vs).length
            · rw [List.getElem?_set_self hl]
              cases q : (L2.wipe σ vs)[u]? with
              | none =>
                have := List.getElem?_eq_none_iff.mp q
                omega
              | some o =>
                cases o with
                | none => rfl
                | some v => exact absurd (hu u List.mem_cons_self) (wipe_some q).2
            · rw [List.set_eq_of_length_le (by omega)]
          · rw [List.getElem?_set_ne hj]
      exact key vs fun _ h => h
    refine ⟨ew.trans ew2, ?_⟩
    have ew3 : L2.wipe σ2 vs = L2.wipe σ vs := ew.trans ew2
    refine ⟨_, wd2, env2, _, _, r3, f2, xok0, fun b env3 f3 bb wd3 H4 le3 r4 eb => ?_⟩
    obtain rfl : bb = b := eb
    have nxt : ∀ {wd4 : Wd} {env4 : PEnv} {H5 : Hp}, Rel X.K T { c with pn := (Dl, us) :: c.pn } wd4 env4 σ2 H5 → Rel X.K T { c with pn := (Dl, us) :: c.pn } wd4 (wipeE env4 vs) (L2.wipe σ vs) H5 := fun {wd4 env4 H5} z => by
      have := z.wipe vs
      rw [ew3] at this
      exact this
    cases bb with
    | false => exact ⟨wd3, env3, acc, us, (le.trans le2).trans le3, nxt r4, ru.mono (le2.trans le3), Nat.le_succ_of_le hi, br_f f3⟩
    | true =>
      show lift X.K T (rE X.K) E0 we σ2 H4 _
      refine ⟨_, wd3, env3, _, _, r4, br_t f3, xok0, fun y1 env4 f4 yv wd4 H5 le4 r5 rp5 => ?_⟩
      have hlt : us.length < sizeLine := Nat.lt_of_le_of_lt hi (Nat.lt_of_lt_of_le hl hz)
      refine ⟨us, (r5.pin (Dl, us) List.mem_cons_self).1, hlt, wd4, env4, acc ++ [y1], us ++ [yv], ((le.trans le2).trans le3).trans le4, ?_, ?_, ?_, f4⟩
      · exact (nxt r5).more hc hq yv hlt
      · exact ((ru.mono (le2.trans le3)).mono le4).append (.cons rp5 .nil)
      · rw [List.length_append]
        exact Nat.succ_le_succ hi
  · rintro H2 ⟨wd', env', acc, us, le, r', ru, hi, f⟩
    rw [List.drop_length] at f
    obtain ⟨p1, p2, p3, p4⟩ := r'.pin (Dl, us) List.mem_cons_self
    have r6 : Rel X.K T c wd' (restE env1 env' vs) σ H2 := Rel.rest r1 le r'.done
    have w0 : ∀ {i : Nat} {s : Sl}, i ∉ vs → env'[i]? = some (some s) → (wipeE env' vs)[i]? = some (some s) := fun {i s} hn e => by
      have key : ∀ us : List Nat, i ∉ us → (wipeE env' us)[i]? = env'[i]? := fun us => by
        induction us with
        | nil => intro _; rfl
        | cons u us ih2 =>
          intro hu
          show ((wipeE env' us).set u none)[i]? = env'[i]?
          rw [List.getElem?_set_ne (fun z => hu (by rw [← z]; exact List.mem_cons_self)), ih2 fun z => hu (List.mem_cons_of_mem _ z)]
      rw [key vs hn]
      exact e
    refine kk acc _ f (.ref Dl) wd' H2 (le1.trans le) r6 ⟨Dl, us, rfl, p1, p2, p3, hc, ru, ⟨fun i ys e => ?_, fun i cs e => ?_⟩, hq⟩
    · rcases restE_some e with ⟨_, ⟨x, z⟩, _⟩ | ⟨hn, e⟩
      · cases z
      · intro z
        exact p4.o i ys (w0 hn e) (by rw [wipe_get hn]; exact z)
    · rcases restE_some e with ⟨_, ⟨x, z⟩, _⟩ | ⟨hn, e⟩
      · cases z
      · exact p4.c i cs (w0 hn e)
theorem jf_comp {elt iter : Expr} {ifs : List Expr} {scope : Scope} (own : List (Str × Nat)) {pos : Pos} {w : W (List D)} {g : WG} {wt : W Bool} {we : W D} (B : Bd X E k) (hi : JI T X E tg iter w) (ok : BlkOk X.N X.env.scope scope own)
    (hg : ∀ (s : Shared) (H : Hp) (C : Addr) (cl : List (Str × Addr)) (fp : List Addr), JG T (X.blk s H scope (compEnvC scope cl C X.env) fp) (own.map (·.2)) tg g)
    (ht : ∀ (s : Shared) (H : Hp) (C : Addr) (cl : List (Str × Addr)) (fp : List Addr), Bd (X.blk s H scope (compEnvC scope cl C X.env) fp) E0 k → JTs T (X.blk s H scope (compEnvC scope cl C X.env) fp) E0 ifs wt)
    (he : ∀ (s : Shared) (H : Hp) (C : Addr) (cl : List (Str × Addr)) (fp : List Addr), Bd (X.blk s H scope (compEnvC scope cl C X.env) fp) E0 k → JE T (X.blk s H scope (compEnvC scope cl C X.env) fp) E0 elt we)
    (hs : ∀ x, foldedSetIterable iter X.env x = pure x := by intro _; rfl) : JF T X E (.ListComp elt [⟨tg, iter, ifs, 0⟩] scope pos) (wComp w g wt we (own.map (·.2))) := by
  have Bb : ∀ (s : Shared) (H : Hp) (C : Addr) (cl : List (Str × Addr)) (fp : List Addr), Bd (X.blk s H scope (compEnvC scope cl C X.env) fp) E0 k := fun s H C cl fp => ⟨B.room, passL, PassesOwn.never, B.calm, B.nd⟩
  exact peI (pe_lc B.calm B.nd hi ok hg (fun s H C cl fp => ht s H C cl fp (Bb s H C cl fp)) (fun s H C cl fp => he s H C cl fp (Bb s H C cl fp)) hs) fun σ H Q h => lc_lift h
end
end Pd

namespace Pd
open PySem PySem.Spec PyProof.Rows L2 LamX

abbrev Fn := List D → (D → Prop) → (Xc → Prop) → Prop
def spec (K : PySem.W.Frag) (T : List (Addr × Str)) (F : Fn) : Sp := fun vs H Q E => ∃ (wd : Wd) (ds : List D) (P : D → Prop) (Ex : Xc → Prop), Good T wd H ∧ Reps K wd vs ds ∧ F ds P Ex ∧ XOk K T ⟨wd, H, []⟩ E Ex ∧
  ∀ d, P d → ∀ (v : V) (wd' : Wd) (H' : Hp), Ord wd wd' H → Good T wd' H' → Keep wd H H' → Rep K wd' v d → Q v H'
structure DefOk (P : Program) (w : World) (K : PySem.W.Frag) (mg : Str → Option Value) (base : Heap) (T : List (Addr × Str)) (x : Str) (k : Nat) (ps : List Str) (F : Fn) : Prop where
  ex : ∃ (f : Addr) (fd : FuncData), mg x = some (.ref f) ∧ PySem.W.keepIn K (.ref f) = true ∧ Binds K fd ps [] ∧ FnOk P w K mg base (L2.CX P w) k f fd ps (spec K T F) ∧ ∃ oc od osl, K.lookup f = some ⟨oc, od, .func fd, osl⟩
theorem DefOk.up {P : Program} {w : World} {K : PySem.W.Frag} {mg : Str → Option Value} {base : Heap} {T : List (Addr × Str)} {x : Str} {j k : Nat} {ps : List Str} {F : Fn} (d : DefOk P w K mg base T x j ps F) (h : j ≤ k) : DefOk P w K mg base T x k ps F := by
  obtain ⟨f, fd, a, b, c, e⟩ := d.ex
  exact ⟨f, fd, a, b, c, e.1.mono h, e.2⟩
section
variable {X : Cx} {T : List (Addr × Str)} {E : XK} {k : Nat}
def wCall (F : Fn) (a : W (List D)) : W D := a.bind fun ds env Q ex => F ds (fun d => Q d env) ex
theorem XOk.into {K : PySem.W.Frag} {c : Ctx} {E : XK} {Ex : Xc → Prop} {wd : Wd} {H : Hp} (x : XOk K T c E Ex) (o : Ord c.wd wd c.H) (kp : Keep c.wd c.H H) : XOk K T ⟨wd, H, []⟩ E Ex :=
  fun y hy cl dd wd' H' o' g' k' r => x y hy cl dd wd' H' (o.trans o' kp) g' (kp.trans o k') r
theorem lift_call {F : Fn} {a : W (List D)} {σ : L2.St} {H : Hp} {Q : VK} (h : lift X.K T (rE X.K) E (wCall F a) σ H Q) : tCall (spec X.K T F) [] E (lift X.K T (rA X.K) E a) σ H Q := by
  obtain ⟨c, wd, env, P, Ex, r, h, xo, kk⟩ := h
  refine ⟨c, wd, env, _, Ex, r, h, xo, fun ds env1 h1 vs wd1 H1 le1 r1 rp1 => ?_⟩
  show spec X.K T F (vs ++ []) H1 Q E
  rw [List.append_nil]
  exact ⟨wd1, ds, _, Ex, r1.good, rp1, h1, xo.into r1.ord r1.keep, fun d hd v wd2 H2 o2 g2 k2 rp2 => kk d env1 hd v wd2 H2 (le1.trans o2.le) (r1.go o2 g2 k2) rp2⟩
theorem je_call {x : Str} {ps : List Str} {F : Fn} {e : Expr} {es : List Expr} {a : W (List D)} {p pos : Pos} {j : Nat} (B : Bd X E k) (G : DefOk X.prog X.w X.K X.mg X.base T x j ps F) (ha : JA T X E (e :: es) a) (hj : j ≤ k := by decide) (hg : Gl X x := by rfl)
    (hdb : (x == ("__debug__" : Str)) = false := by decide) (he : starEach (e :: es) X.env = (false, eval e X.env) :: starEach es X.env := by rfl) (hpl : (backTo pos (starEach es X.env)).any (·.1) = false := by rfl) : JE T X E (.Call (.Name x p) (e :: es) [] pos) (wCall F a) := by
  obtain ⟨f, fd, g1, g2, g3, g4⟩ := G.ex
  exact peI (pe_call g4.1 (B.room.mono hj) hg g1 g2 g3 .nil B.pass ha hdb he hpl) fun σ H Q h => lift_call h
end
def startE (N : List Str) (ds : List D) : PEnv := ds.map (fun d => some (.d d)) ++ List.replicate (N.length - ds.length) none
section
variable {K : PySem.W.Frag} {T : List (Addr × Str)}
theorem reps_map {wd : Wd} {vs : List V} {ds : List D} (r : Reps K wd vs ds) {i : Nat} {s : Sl} (n : Nat) (h : (ds.map (fun d => some (Sl.d d)) ++ List.replicate n none)[i]? = some (some s)) :
    ∃ d v, s = .d d ∧ (vs.map some ++ List.replicate n none)[i]? = some (some v) ∧ Rep K wd v d := by
  by_cases hi : i < ds.length
  · rw [List.getElem?_append_left (by simpa using hi), List.getElem?_map] at h
    cases e : ds[i]? with
    | none =>
      rw [e] at h
      cases h
    | some d =>
      rw [e] at h
      cases h
      obtain ⟨v, e1, r1⟩ := r.get e
      refine ⟨d, v, rfl, ?_, r1⟩
      rw [List.getElem?_append_left (by rw [List.length_map, r.length]; exact hi), List.getElem?_map, e1]
      rfl
  · rw [List.getElem?_append_right (by simpa using hi), List.getElem?_replicate] at h
    split at h <;> cases h
theorem rel_start {wd : Wd} {H : Hp} {N : List Str} {vs : List V} {ds : List D} (g : Good T wd H) (r : Reps K wd vs ds) : Rel K T ⟨wd, H, []⟩ wd (startE N ds) (L2.start N vs) H := by
  have key : ∀ {i : Nat} {s : Sl}, (startE N ds)[i]? = some (some s) → ∃ d v, s = .d d ∧ (L2.start N vs)[i]? = some (some v) ∧ Rep K wd v d := fun {i s} h => by
    unfold startE at h
    unfold L2.start
    rw [r.length]
    exact reps_map r _ h
  refine ⟨Ord.refl _ _, g, Keep.refl _ _, ?_, fun i x e => ?_, fun i xs e => ?_, fun i j xs ys p e1 e2 e3 e4 => ?_, fun q hq => absurd hq (by simp), ⟨fun i p C fs e => ?_, fun i j p p' C C' fs gs e _ => ?_, fun i cs e => ?_, fun i cs e => ?_, fun i j cs ds e _ => ?_, fun i lk kvs e => ?_, fun i j lk lk' ks ls p e _ _ _ => ?_⟩⟩
  · unfold startE L2.start
    rw [List.length_append, List.length_append, List.length_map, List.length_map, List.length_replicate, List.length_replicate, r.length]
  · obtain ⟨d, v, z, h1, h2⟩ := key e
    cases z
    exact ⟨v, h1, h2⟩
  · obtain ⟨d, v, z, _⟩ := key e
    cases z
  · obtain ⟨d, v, z, _⟩ := key e1
    cases z
  all_goals
    obtain ⟨d, v, z, _⟩ := key e
    cases z
end
def dEnds (P : D → Prop) (Ex : Xc → Prop) : PEnds := { nx := fun _ => P .non, rt := P, ex := Ex }
section
variable {P : Program} {w : World} {K : PySem.W.Frag} {mg : Str → Option Value} {base : Heap} {T : List (Addr × Str)}
theorem def_ok {x : Str} {ag : Arguments} {body : List Stmt} {scope : Scope} {f : Addr} {fd : FuncData} {N ps : List Str} {k : Nat} {F : Fn} (D : FunD K x x ag body scope [] [] f fd) (S : FnScope N ps scope) (gm : mg x = some (.ref f)) (bn : Binds K fd ps [])
    (len : ∀ ds Q Ex, F ds Q Ex → ds.length = ps.length)
    (hd : ∀ (cdv : Value) (A : Around) (outer : List Env) (s : Shared) (H : Hp) (E : XK), Bd (cxOf (L2.CX P w) P w K mg base N x scope f cdv A outer s H E) E k → Takes (cxOf (L2.CX P w) P w K mg base N x scope f cdv A outer s H E) (fun cls d _ H => E cls d H) →
      ∃ wb, JSs T (cxOf (L2.CX P w) P w K mg base N x scope f cdv A outer s H E) E body wb ∧ ∀ ds Q Ex, F ds Q Ex → wb (dEnds Q Ex) (startE N ds)) : DefOk P w K mg base T x (k + 1) ps F := by
  refine ⟨f, fd, gm, D.kp, bn, ?_, by
    obtain ⟨oc, od, dV, kV, doc, pm, an, cdv, ct, osl, _, lk, _⟩ := D.ex
    exact ⟨oc, od, osl, lk⟩⟩
  refine D.ok S (fun vs H Q E h => ?_) (fun cdv A outer s H vs Q E hr h => ?_)
  · obtain ⟨wd, ds, P, Ex, _, r, h, _⟩ := h
    rw [r.length]
    exact len _ _ _ h
  · obtain ⟨wd, ds, P1, Ex, g, r, h, xo, kk⟩ := h
    have tk : Takes (cxOf (L2.CX P w) P w K mg base N x scope f cdv A outer s H E) (fun cls d _ H => E cls d H) := takes_of rfl rfl rfl rfl
    have B : Bd (cxOf (L2.CX P w) P w K mg base N x scope f cdv A outer s H E) E k := ⟨hr, passes_call tk fun _ _ _ _ h => h, passes_of rfl, rfl, S.nd⟩
    obtain ⟨wb, hj, hw⟩ := hd cdv A outer s H E B tk
    refine ⟨_, hj, ⟨wd, H, []⟩, wd, startE N ds, dEnds P1 Ex, rel_start g r, hw ds P1 Ex h, ⟨xo, fun env' hn σ' wd' H' le r' => ?_, fun d hd v wd' H' o' g' k' rp => kk d hd v wd' H' o' g' k' rp, fun _ z => z.elim, fun _ z => z.elim⟩⟩
    exact kk .non hn .non wd' H' r'.ord r'.good r'.keep .non
end
end Pd

namespace Pd
open PySem PySem.Spec PyProof.Rows L2 LamX

abbrev tupO (dd : Option Addr) (sl : Array (Option Value)) (items : Array Value) (n : Nat) : Obj := { cls := .type "tuple", dict := dd, data := .seq items n, slots := sl }
theorem mul_road {X : Cx} {pins : List (Addr × Obj)} {σ : L2.St} {s : Shared} {l : Addr} {k : Int} {t : Tok} {items : Array Value} {n : Nat} {dd : Option Addr} {sl : Array (Option Value)} {Q : VK} {S : PySem.Spec}
    (at_ : s.heap.get? l = some (tupO dd sl items n)) (own : Meets (Builtin.«tuple.__mul__» ⟨[.ref l, .int k t], []⟩) S)
    (told : S X.A (wants (EP X pins σ Q) X.xe) s) : wpAny (model X.prog X.w) X.A (binaryOp .Mult (.ref l) (.int k t)) (EP X pins σ Q) X.xe s := by
  have ty : s.TypeIs (.ref l) "tuple" := ⟨_, at_, rfl⟩
  have num : ∀ s' : Shared, s'.TypeIs (.int k t) "int" := fun s' => typeIs_int s' k t
  apply wpAny_binaryOp_repeat_ref (by decide) ty num noFill_tuple_mul F.fills_int_mul F.slot_int_rmul repeat_tuple F.slot_int_index.lookup
  apply call_meets F.slot_int_rmul (num s) F.entry_int_rmul (F.args_int_rmul_2 _ _) (int_rmul_tuple k t l items n dd sl)
  exact ⟨at_, rfl, ty, call_meets F.slot_tuple_mul ty F.entry_tuple_mul (F.args_tuple_mul_2 _ _) own told⟩
theorem mul_none {l : Addr} {items : Array Value} {n : Nat} {dd : Option Addr} {sl : Array (Option Value)} {k : Int} {u : Tok} (full : items.isEmpty = false) (k0 : k ≤ 0) (k1 : -1000 ≤ k) :
    Meets (Builtin.«tuple.__mul__» ⟨[.ref l, .int k u], []⟩) fun _ R s => s.heap.get? l = some (tupO dd sl items n) ∧ R (.ok (.ret (.ref s.heap.objs.size))) { s with heap := s.heap.push { cls := .type "tuple", data := .seq #[] } } := by
  apply Meets.of_wp
  rintro prog w A R ⟨hp, g, d, tk, os⟩ ⟨at_, told⟩
  have small : ¬ ((decide (k < -(2 ^ 63)) || decide (k ≥ 2 ^ 63)) = true) := by simp; omega
  have other : ¬ ((items.isEmpty || k == 1) = true) := by simp [full]; omega
  have none_ : (decide (k ≤ 0) || items.isEmpty) = true := by simp [k0]
  have ix := AutoSeq1.idx_int
  wp_walk using AutoSeq1.wpAny_loadPart' at_
  repeat (first
    | (apply wpAny_ite_false (decide_eq_false small); wp_walk using AutoSeq1.wpAny_loadPart' at_)
    | (apply wpAny_ite_false (decide_eq_false other); wp_walk using AutoSeq1.wpAny_loadPart' at_)
    | (apply wpAny_ite_true (decide_eq_true none_); wp_walk using AutoSeq1.wpAny_loadPart' at_))
  exact ⟨_, rfl, told⟩
def rRepN (K : PySem.W.Frag) : R2 := fun x y H Q => ∃ l k xs, x = .ref l ∧ y = .int k ∧ SqT K H l xs ∧ xs ≠ [] ∧ k ≤ 0 ∧ -1000 ≤ k ∧ ∀ p, H p = none → Q (.ref p) (upd H p (.tup []))
theorem op_repN {X : Cx} : OpR X (binaryOp .Mult) (rRepN X.K) := by
  intro pins s σ H x y v u Q I rx ry
  rintro ⟨l, k, xs, rfl, rfl, hT, some_, k0, k1, q⟩
  cases rx
  obtain ⟨t, rfl⟩ := ry
  obtain ⟨its, same, ⟨⟨_, dd, _, sl⟩, at_, rfl, n, rfl⟩, _⟩ := I.tuple hT
  have full : its.toArray.isEmpty = false := by
    cases same
    · exact (some_ rfl).elim
    · rfl
  have fresh : H s.heap.objs.size = none := I.hok.fresh (Nat.le_refl _)
  have laid := I.laid (t' := s.toks) (h' := s.heap.push { cls := .type "tuple", data := .seq #[] }) (o := .tup []) (fun _ _ e => Heap.get?_push_of_some _ e) (Nat.le_refl _) ⟨Nat.zero_le _, [], .nil, IsTup.new _ _⟩
  exact mul_road at_ (mul_none full k0 k1) ⟨at_, .ref s.heap.objs.size, _, laid, rfl, q _ fresh⟩
theorem mul_once {l : Addr} {items : Array Value} {n : Nat} {dd : Option Addr} {sl : Array (Option Value)} {u : Tok} :
    Meets (Builtin.«tuple.__mul__» ⟨[.ref l, .int 1 u], []⟩) fun _ R s => s.heap.get? l = some (tupO dd sl items n) ∧ R (.ok (.ret (.ref l))) s := by
  apply Meets.of_wp
  rintro prog w A R ⟨hp, g, d, tk, os⟩ ⟨at_, told⟩
  have ix := AutoSeq1.idx_int
  wp_walk using AutoSeq1.wpAny_loadPart' at_
  exact ⟨_, rfl, told⟩
def rOne (K : PySem.W.Frag) : R2 := fun x y H Q => ∃ l xs, x = .ref l ∧ y = .int 1 ∧ SqT K H l xs ∧ Q (.ref l) H
theorem op_one {X : Cx} : OpR X (binaryOp .Mult) (rOne X.K) := by
  intro pins s σ H x y v u Q I rx ry
  rintro ⟨l, xs, rfl, rfl, hT, q⟩
  cases rx
  obtain ⟨t, rfl⟩ := ry
  obtain ⟨its, _, ⟨⟨_, dd, _, sl⟩, at_, rfl, n, rfl⟩, _⟩ := I.tuple hT
  exact mul_road at_ mul_once ⟨at_, .ref l, H, I, rfl, q⟩

def dAdd : D → D → Option D
  | .int a, .int b => some (.int (a + b))
  | .tup xs, .tup ys => if xs.length + ys.length ≤ 1000000 then some (.tup (xs ++ ys)) else none
  | .lst xs, .lst ys => if xs.length + ys.length ≤ 1000000 then some (.lst (xs ++ ys)) else none
  | .str x, .str y => if x.length + y.length ≤ 1000000 then some (.str (x ++ y)) else none
  | _, _ => none
def dSub : D → D → Option D
  | .int a, .int b => some (.int (a - b))
  | _, _ => none
def dMul : D → D → Option D
  | .int a, .int b => if (a.natAbs < 2 ^ 64 ∨ b.natAbs < 2 ^ 64) ∨ a.natAbs.log2 + b.natAbs.log2 < 1000000 then some (.int (a * b)) else none
  | .tup xs, .int k => if xs ≠ [] ∧ -1000 ≤ k ∧ k ≤ 1000 ∧ xs.length ≤ 1000 then some (.tup (List.replicate k.toNat xs).flatten) else none
  | .lst xs, .int k => if -1000000 ≤ k ∧ k ≤ 1000000 ∧ xs.length * k.toNat ≤ 1000000 then some (.lst (List.replicate k.toNat xs).flatten) else none
  | _, _ => none
def dDiv : D → D → Option D
  | .int a, .int b => if 0 < b ∧ b.natAbs.log2 < 9000 then some (.int (a / b)) else none
  | _, _ => none
def dMod : D → D → Option D
  | .int a, .int b => if 0 < b then some (.int (a % b)) else none
  | _, _ => none
def dPow : D → D → Option D
  | .int a, .int b => if 0 ≤ b ∧ (Builtin.Int.intBits a : Int) * b ≤ 2 ^ 27 then some (.int (a ^ b.toNat)) else none
  | _, _ => none
def dCmp (p : Int → Int → Bool) : D → D → Option D
  | .int a, .int b => some (.bl (p a b))
  | _, _ => none
abbrev dLt := dCmp fun a b => decide (a < b)
abbrev dLe := dCmp fun a b => decide (a ≤ b)
abbrev dGt := dCmp fun a b => decide (b < a)
abbrev dGe := dCmp fun a b => decide (b ≤ a)
mutual
def toPy : D → PyData
  | .bl b => .bool b
  | .int i => .int i
  | .str x => .str x
  | .tup xs => .tuple (toPys xs)
  | .lst xs => .list (toPys xs)
  | _ => .none
def toPys : List D → List PyData
  | [] => []
  | x :: xs => toPy x :: toPys xs
end
def plain : Nat → D → Bool
  | 0, _ => false
  | n + 1, d => match d with
    | .non => true
    | .bl _ => true
    | .int _ => true
    | .str x => PyData.strOk x
    | .tup xs => xs.all (plain n)
    | .lst xs => xs.all (plain n)
    | _ => false
mutual
def eqb : D → D → Bool
  | .non, .non => true
  | .bl a, .bl b => a == b
  | .bl a, .int j => (if a then 1 else 0) == j
  | .int i, .bl b => i == (if b then 1 else 0)
  | .int i, .int j => i == j
  | .str x, .str y => x == y
  | .lst xs, .lst ys => eqbs xs ys
  | .tup xs, .tup ys => eqbs xs ys
  | _, _ => false
def eqbs : List D → List D → Bool
  | [], [] => true
  | x :: xs, y :: ys => eqb x y && eqbs xs ys
  | _, _ => false
end
def dEq (x y : D) : Option D := if plain 60 x && plain 60 y then some (.bl (eqb x y)) else none
def dNe (x y : D) : Option D := if plain 60 x && plain 60 y then some (.bl (!eqb x y)) else none
theorem ite_some {α : Type} {c : Prop} [Decidable c] {a z : α} (h : (if c then some a else none) = some z) : c ∧ a = z := by
  split at h
  · exact ⟨by assumption, Option.some.inj h⟩
  · cases h
mutual
theorem plain_lay : ∀ (n : Nat) (d : D), plain n d = true → (toPy d).canLay0 = true ∧ (toPy d).depth ≤ n
  | 0, d, h => by cases h
  | n + 1, .non, _ => by simp [toPy, PyData.canLay0, PyData.depth]
  | n + 1, .bl b, _ => by simp [toPy, PyData.canLay0, PyData.depth]
  | n + 1, .int b, _ => by simp [toPy, PyData.canLay0, PyData.depth]
  | n + 1, .str b, h => by
    have h' : PyData.strOk b = true := h
    simp [toPy, PyData.canLay0, PyData.depth, h']
  | n + 1, .tup xs, h => by
    have h' : xs.all (plain n) = true := h
    obtain ⟨a, b⟩ := plains_lay n xs h'
    simp only [toPy, PyData.canLay0, PyData.depth]
    exact ⟨a, by omega⟩
  | n + 1, .lst xs, h => by
    have h' : xs.all (plain n) = true := h
    obtain ⟨a, b⟩ := plains_lay n xs h'
    simp only [toPy, PyData.canLay0, PyData.depth]
    exact ⟨a, by omega⟩
  | n + 1, .scr _, h => by cases h
  | n + 1, .dic _, h => by cases h
  | n + 1, .dit _, h => by cases h
  | n + 1, .ins _ _, h => by cases h
  | n + 1, .box _, h => by cases h
  | n + 1, .raw _, h => by cases h
  | n + 1, .cls _, h => by cases h
theorem plains_lay : ∀ (n : Nat) (ds : List D), ds.all (plain n) = true → PyData.canLayAll0 (toPys ds) = true ∧ PyData.depthAll (toPys ds) ≤ n
  | n, [], _ => by simp [toPys, PyData.canLayAll0, PyData.depthAll]
  | n, d :: ds, h => by
    rw [List.all_cons, Bool.and_eq_true] at h
    obtain ⟨a, b⟩ := plain_lay n d h.1
    obtain ⟨a2, b2⟩ := plains_lay n ds h.2
    simp only [toPys, PyData.canLayAll0, PyData.depthAll, a, a2, Bool.and_self, true_and]
    omega
end

mutual
theorem eqv_eqb : ∀ (n : Nat) (x y : D), plain n x = true → plain n y = true → PyData.eqv (toPy x) (toPy y) = eqb x y
  | 0, x, _, h, _ => by cases h
  | n + 1, .non, y, _, hy => by cases y <;> first | rfl | cases hy
  | n + 1, .bl b, y, _, hy => by cases y <;> first | rfl | cases hy
  | n + 1, .int b, y, _, hy => by cases y <;> first | rfl | cases hy
  | n + 1, .str b, y, _, hy => by cases y <;> first | rfl | cases hy
  | n + 1, .tup xs, y, hx, hy => by
    cases y <;> first | rfl | cases hy | exact eqvs_eqbs n xs _ hx hy
  | n + 1, .lst xs, y, hx, hy => by
    cases y <;> first | rfl | cases hy | exact eqvs_eqbs n xs _ hx hy
  | n + 1, .scr _, _, h, _ => by cases h
  | n + 1, .dic _, _, h, _ => by cases h
  | n + 1, .dit _, _, h, _ => by cases h
  | n + 1, .ins _ _, _, h, _ => by cases h
  | n + 1, .box _, _, h, _ => by cases h
  | n + 1, .raw _, _, h, _ => by cases h
  | n + 1, .cls _, _, h, _ => by cases h
theorem eqvs_eqbs : ∀ (n : Nat) (xs ys : List D), xs.all (plain n) = true → ys.all (plain n) = true → PyData.eqvAll (toPys xs) (toPys ys) = eqbs xs ys
  | n, [], [], _, _ => rfl
  | n, [], _ :: _, _, _ => rfl
  | n, _ :: _, [], _, _ => rfl
  | n, x :: xs, y :: ys, hx, hy => by
    rw [List.all_cons, Bool.and_eq_true] at hx hy
    show (PyData.eqv (toPy x) (toPy y) && PyData.eqvAll (toPys xs) (toPys ys)) = (eqb x y && eqbs xs ys)
    rw [eqv_eqb n x y hx.1 hy.1, eqvs_eqbs n xs ys hx.2 hy.2]
end
section
variable {K : PySem.W.Frag} {T : List (Addr × Str)} {wd : Wd} {H : Hp}
mutual
theorem rep_dp (g : Good T wd H) : ∀ (n : Nat) {v : V} {d : D}, plain n d = true → Rep K wd v d → Dp K H v (toPy d)
  | 0, _, _, h, _ => by cases h
  | n + 1, _, _, _, .non => .non
  | n + 1, _, _, _, .bl b => .bl b
  | n + 1, _, _, _, .int b => .int b
  | n + 1, _, _, _, .str b => .str b
  | n + 1, _, _, h, .tup hs rs => .tup (sub_sqT g hs) (reps_dp g n h rs)
  | n + 1, _, _, h, .lst hs rs => .lst (sub_sqL g hs) (reps_dp g n h rs)
  | n + 1, _, _, h, .scr _ => by cases h
  | n + 1, _, _, h, .dic _ _ _ => by cases h
  | n + 1, _, _, h, .dit _ _ _ => by cases h
  | n + 1, _, _, h, .ins _ _ _ => by cases h
  | n + 1, _, _, h, .box _ => by cases h
  | n + 1, _, _, h, .raw _ => by cases h
  | n + 1, _, _, h, .cls _ => by cases h
theorem reps_dp (g : Good T wd H) : ∀ (n : Nat) {vs : List V} {ds : List D}, ds.all (plain n) = true → Reps K wd vs ds → DpAll K H vs (toPys ds)
  | n, _, _, _, .nil => .nil
  | n, _, _, h, .cons a b => by
    rw [List.all_cons, Bool.and_eq_true] at h
    exact .cons (rep_dp g n h.1 a) (reps_dp g n h.2 b)
end
end
theorem plain_shaped {d : D} (h : plain 60 d = true) : SeqAt.shaped (toPy d) = true := by
  obtain ⟨a, b⟩ := plain_lay 60 d h
  unfold SeqAt.shaped
  rw [a, Bool.true_and]
  exact decide_eq_true (Nat.le_trans b (by decide))
section
variable {X : Cx}
theorem opD_eq (hu : X.A.units + 64 < cLine) : OpD X (compareOp .Eq) dEq := ⟨_, op_eqD hu, fun x y z e T wd H v u Q g rx ry d => by
  obtain ⟨h, rfl⟩ := ite_some e
  rw [Bool.and_eq_true] at h
  refine ⟨toPy x, toPy y, rep_dp g 60 h.1 rx, rep_dp g 60 h.2 ry, plain_shaped h.1, plain_shaped h.2, ?_⟩
  rw [eqv_eqb 60 x y h.1 h.2]
  exact d.now (.bl _)⟩
theorem opD_ne (hu : X.A.units + 64 < cLine) : OpD X (compareOp .NotEq) dNe := ⟨_, op_neD hu, fun x y z e T wd H v u Q g rx ry d => by
  obtain ⟨h, rfl⟩ := ite_some e
  rw [Bool.and_eq_true] at h
  refine ⟨toPy x, toPy y, rep_dp g 60 h.1 rx, rep_dp g 60 h.2 ry, plain_shaped h.1, plain_shaped h.2, ?_⟩
  rw [eqv_eqb 60 x y h.1 h.2]
  exact d.now (.bl _)⟩
theorem cmp_of {op : CmpOp} {p : Int → Int → Bool} (h : OpR X (compareOp op) (rI0 fun i j => .bl (p i j))) : OpD X (compareOp op) (dCmp p) := ⟨_, h, fun x y z e T wd H v u Q g rx ry d => by
  cases rx <;> first | cases e | skip
  cases ry <;> first | cases e | skip
  exact ⟨_, _, rfl, rfl, d.now (.bl _)⟩⟩
theorem opD_lt : OpD X (compareOp .Lt) dLt := cmp_of op_lt
theorem opD_le : OpD X (compareOp .LtE) dLe := cmp_of op_le
theorem opD_gt : OpD X (compareOp .Gt) dGt := cmp_of op_gt
theorem opD_ge : OpD X (compareOp .GtE) dGe := cmp_of op_ge
theorem opD_sub : OpD X (binaryOp .Sub) dSub := ⟨_, op_sub, fun x y z e T wd H v u Q g rx ry d => by
  cases rx <;> first | cases e | skip
  cases ry <;> first | cases e | skip
  exact ⟨_, _, rfl, rfl, d.now (.int _)⟩⟩
theorem opD_mod : OpD X (binaryOp .Mod) dMod := ⟨_, op_mod, fun x y z e T wd H v u Q g rx ry d => by
  cases rx <;> first | cases e | skip
  cases ry <;> first | cases e | skip
  obtain ⟨h, rfl⟩ := ite_some e
  exact ⟨_, _, rfl, rfl, h, d.now (.int _)⟩⟩
theorem opD_div : OpD X (binaryOp .FloorDiv) dDiv := ⟨_, op_fdivW, fun x y z e T wd H v u Q g rx ry d => by
  cases rx <;> first | cases e | skip
  cases ry <;> first | cases e | skip
  obtain ⟨h, rfl⟩ := ite_some e
  exact ⟨_, _, rfl, rfl, h, d.now (.int _)⟩⟩
theorem op_powB : OpR X (binaryOp .Pow) (rI (fun i j => 0 ≤ j ∧ (Builtin.Int.intBits i : Int) * j ≤ 2 ^ 27) fun i j => .int (i ^ j.toNat)) := opI fun _ _ _ _ _ _ _ hc q => pow_int hc.1 hc.2 q
theorem opD_pow : OpD X (binaryOp .Pow) dPow := ⟨_, op_powB, fun x y z e T wd H v u Q g rx ry d => by
  cases rx <;> first | cases e | skip
  cases ry <;> first | cases e | skip
  obtain ⟨h, rfl⟩ := ite_some e
  exact ⟨_, _, rfl, rfl, h, d.now (.int _)⟩⟩
theorem opD_add : OpD X (binaryOp .Add) dAdd := ⟨_, ((op_add.or op_catA).or op_cat).or op_add_str, fun x y z e T wd H v u Q g rx ry d => by
  cases rx with
  | int a =>
    cases ry with
    | int b =>
      cases e
      exact .inl (.inl (.inl ⟨_, _, rfl, rfl, d.now (.int _)⟩))
    | _ => cases e
  | str a =>
    cases ry with
    | str b =>
      obtain ⟨h, rfl⟩ := ite_some e
      exact .inr ⟨_, _, rfl, rfl, sz6 h, d.now (.str _)⟩
    | _ => cases e
  | tup h1 r1 =>
    cases ry with
    | tup h2 r2 =>
      obtain ⟨h, rfl⟩ := ite_some e
      have hz := sz6 h
      rw [← r1.length, ← r2.length] at hz
      refine .inl (.inl (.inr ⟨_, _, _, _, rfl, rfl, sub_sqT g h1, sub_sqT g h2, hz, fun z => ?_, fun _ z => ?_, fun _ _ p hp => ?_⟩))
      · rw [z] at r1
        cases r1
        exact d.now (.tup h2 r2)
      · rw [z] at r2
        cases r2
        rw [List.append_nil] at d
        exact d.now (.tup h1 r1)
      · exact d.tup g hp (r1.append r2) (by rw [List.length_append]; exact hz)
    | _ => cases e
  | lst h1 r1 =>
    cases ry with
    | lst h2 r2 =>
      obtain ⟨h, rfl⟩ := ite_some e
      have hz := sz6 h
      rw [← r1.length, ← r2.length] at hz
      exact .inl (.inr ⟨_, _, _, _, rfl, rfl, g.sub _ _ h1, g.sub _ _ h2, hz, fun p hp => d.lst g hp (r1.append r2) (by rw [List.length_append]; exact hz)⟩)
    | _ => cases e
  | _ => cases e⟩
theorem rep_len {α : Type} (n : Nat) (xs : List α) : (List.replicate n xs).flatten.length = n * xs.length := by
  induction n with
  | zero => simp
  | succ n ih =>
    rw [List.replicate_succ, List.flatten_cons, List.length_append, ih, Nat.succ_mul]
    omega
theorem rep_one {α : Type} (xs : List α) : (List.replicate (Int.toNat 1) xs).flatten = xs := by
  show (List.replicate 1 xs).flatten = xs
  rw [List.replicate_succ, List.replicate_zero, List.flatten_cons, List.flatten_nil, List.append_nil]
theorem opD_mul : OpD X (binaryOp .Mult) dMul := ⟨_, ((((op_mul.or op_mulW).or op_repT).or op_rep).or op_one).or op_repN, fun x y z e T wd H v u Q g rx ry d => by
  cases rx with
  | int a =>
    cases ry with
    | int b =>
      obtain ⟨h, rfl⟩ := ite_some e
      rcases h with h | h
      · refine .inl (.inl (.inl (.inl (.inl ⟨_, _, rfl, rfl, ?_, d.now (.int _)⟩))))
        rcases h with h | h
        · exact .inl ⟨by omega, by omega⟩
        · exact .inr ⟨by omega, by omega⟩
      · exact .inl (.inl (.inl (.inl (.inr ⟨_, _, rfl, rfl, h, d.now (.int _)⟩))))
    | _ => cases e
  | tup h1 r1 =>
    cases ry with
    | int b =>
      obtain ⟨h, rfl⟩ := ite_some e
      obtain ⟨q1, q2, q3, q4⟩ := h
      by_cases q5 : b = 1
      · subst q5
        refine .inl (.inr ⟨_, _, rfl, rfl, sub_sqT g h1, d.now ?_⟩)
        rw [rep_one]
        exact .tup h1 r1
      by_cases q6 : b ≤ 0
      · rw [show b.toNat = 0 by omega] at d
        refine .inr ⟨_, _, _, rfl, rfl, sub_sqT g h1, fun z => ?_, q6, q2, fun p hp => d.tup g hp .nil (Nat.zero_le _)⟩
        rw [z] at r1
        cases r1
        exact q1 rfl
      refine .inl (.inl (.inl (.inr ⟨_, _, _, rfl, rfl, sub_sqT g h1, fun z => ?_, by omega, q3, by rw [r1.length]; exact q4, fun p hp => d.tup g hp (r1.rep _) ?_⟩)))
      · rw [z] at r1
        cases r1
        exact q1 rfl
      · rw [rep_len, r1.length]
        have m1 : b.toNat * _ ≤ 1000 * 1000 := Nat.mul_le_mul (show b.toNat ≤ 1000 by omega) q4
        exact Nat.le_trans m1 (by decide)
    | _ => cases e
  | lst h1 r1 =>
    cases ry with
    | int b =>
      obtain ⟨h, rfl⟩ := ite_some e
      obtain ⟨q1, q2, q3⟩ := h
      have hz : _ * b.toNat ≤ sizeLine := sz6 q3
      rw [← r1.length] at hz
      refine .inl (.inl (.inr ⟨_, _, _, rfl, rfl, g.sub _ _ h1, by omega, by omega, hz, fun p hp => d.lst g hp (r1.rep _) ?_⟩))
      rw [rep_len, Nat.mul_comm]
      exact hz
    | _ => cases e
  | _ => cases e⟩
theorem opI_add : OpDI X .Add (fun x y => match x, y with | .int a, .int b => some (.int (a + b)) | _, _ => none) := ⟨_, ip_add, fun x y z e T wd H v u Q g rx ry d => by
  cases rx <;> first | cases e | skip
  cases ry <;> first | cases e | skip
  exact ⟨_, _, rfl, rfl, d.now (.int _)⟩⟩
theorem opI_sub : OpDI X .Sub (fun x y => match x, y with | .int a, .int b => some (.int (a - b)) | _, _ => none) := ⟨_, ip_sub, fun x y z e T wd H v u Q g rx ry d => by
  cases rx <;> first | cases e | skip
  cases ry <;> first | cases e | skip
  exact ⟨_, _, rfl, rfl, d.now (.int _)⟩⟩
def dIs : D → D → Option D
  | .bl a, .bl b => some (.bl (decide (a = b)))
  | .non, .non => some (.bl true)
  | .bl _, .non => some (.bl false)
  | .int _, .non => some (.bl false)
  | .str _, .non => some (.bl false)
  | .tup _, .non => some (.bl false)
  | .lst _, .non => some (.bl false)
  | .dic _, .non => some (.bl false)
  | .ins _ _, .non => some (.bl false)
  | _, _ => none
def dNot : Option D → Option D
  | some (.bl b) => some (.bl (!b))
  | _ => none
def dIsNot (x y : D) : Option D := dNot (dIs x y)
theorem opD_is : OpD X (compareOp .Is) dIs := ⟨_, op_isN.or op_isBl, fun x y z e T wd H v u Q g rx ry d => by
  cases ry with
  | non => cases rx <;> first | (cases e; exact .inl ⟨rfl, d.now (.bl _)⟩) | cases e
  | bl b => cases rx <;> first | (cases e; exact .inr ⟨_, _, rfl, rfl, d.now (.bl _)⟩) | cases e
  | _ => cases rx <;> cases e⟩
theorem opD_isNot : OpD X (compareOp .IsNot) dIsNot := ⟨_, op_notN.or op_notBl, fun x y z e T wd H v u Q g rx ry d => by
  cases ry with
  | non => cases rx <;> first | (cases e; exact .inl ⟨rfl, d.now (.bl _)⟩) | cases e
  | bl b => cases rx <;> first | (cases e; exact .inr ⟨_, _, rfl, rfl, d.now (.bl _)⟩) | cases e
  | _ => cases rx <;> cases e⟩
def dIn : D → D → Option D
  | x, .lst ys => if plain 59 x && ys.all (plain 59) then some (.bl (ys.any fun y => eqb y x)) else none
  | x, .tup ys => if plain 59 x && ys.all (plain 59) then some (.bl (ys.any fun y => eqb y x)) else none
  | _, _ => none
def rInT (K : PySem.W.Frag) (b : Bool) : R2 := fun x y H Q => ∃ d ds, Dp K H x d ∧ Dp K H y (.tuple ds) ∧ SeqAt.shaped d = true ∧ SeqAt.shaped (.tuple ds) = true ∧ Q (.bl (xor b (ds.any fun z => PyData.eqv z d))) H
theorem op_inT (hu : X.A.units + 65 < cLine) : OpR X (compareOp .In) (rInT X.K false) := by
  rintro pins s σ H x y v u Q I rx ry ⟨d, ds, hd, he, sd, se, q⟩
  obtain ⟨as, r1⟩ := Dp.reads I d x v hd rx
  obtain ⟨bs, r2⟩ := Dp.reads I (.tuple ds) y u he ry
  refine SeqAt.in_tuple_reads r2 r1 (SeqAt.canLay_of_shaped se) (SeqAt.canLay_of_shaped sd) (room_in_shaped sd hu) ⟨.bl _, H, I, rfl, ?_⟩
  rw [Bool.false_xor] at q
  exact q
theorem any_py : ∀ (ys : List D) (x : D), plain 59 x = true → ys.all (plain 59) = true → ((toPys ys).any fun z => PyData.eqv z (toPy x)) = ys.any fun y => eqb y x
  | [], _, _, _ => rfl
  | y :: ys, x, hx, hy => by
    rw [List.all_cons, Bool.and_eq_true] at hy
    show (PyData.eqv (toPy y) (toPy x) || (toPys ys).any fun z => PyData.eqv z (toPy x)) = (eqb y x || ys.any fun y => eqb y x)
    rw [eqv_eqb 59 y x hy.1 hx, any_py ys x hx hy.2]
theorem plain_up {d : D} (h : plain 59 d = true) : SeqAt.shaped (toPy d) = true := by
  obtain ⟨a, b⟩ := plain_lay 59 d h
  unfold SeqAt.shaped
  rw [a, Bool.true_and]
  exact decide_eq_true (Nat.le_trans b (by decide))
theorem opD_in (hu : X.A.units + 65 < cLine) : OpD X (compareOp .In) dIn := ⟨_, (op_inD hu).or (op_inT hu), fun x y z e T wd H v u Q g rx ry d => by
  cases ry with
  | tup hs rs =>
    obtain ⟨h, rfl⟩ := ite_some e
    rw [Bool.and_eq_true] at h
    refine .inr ⟨toPy x, toPys _, rep_dp g 59 h.1 rx, .tup (sub_sqT g hs) (reps_dp g 59 h.2 rs), plain_up h.1, plain_shaped (d := .tup _) h.2, ?_⟩
    rw [any_py _ x h.1 h.2, Bool.false_xor]
    exact d.now (.bl _)
  | lst hs rs =>
    obtain ⟨h, rfl⟩ := ite_some e
    rw [Bool.and_eq_true] at h
    refine .inl ⟨toPy x, toPys _, rep_dp g 59 h.1 rx, .lst (sub_sqL g hs) (reps_dp g 59 h.2 rs), plain_up h.1, plain_shaped (d := .lst _) h.2, ?_⟩
    rw [any_py _ x h.1 h.2]
    exact d.now (.bl _)
  | _ => cases e⟩
end
end Pd

namespace Pd
open PySem PySem.Spec PyProof.Rows L2 LamX

section
variable {X : Cx} {T : List (Addr × Str)} {E : XK} {k : Nat}
structure CallB (X : Cx) (f : Value) (g : D → Option D) : Prop where
  ex : ∃ r : List V → Hp → VK → Prop, CallR X f r ∧ ∀ (x z : D), g x = some z → ∀ (T : List (Addr × Str)) (wd : Wd) (H : Hp) (v : V) (Q : VK), Good T wd H → Top X.K wd H v x → Del X.K wd H z Q → r [v] H Q
structure CallN (X : Cx) (f : Value) (g : List D → Option D) : Prop where
  ex : ∃ r : List V → Hp → VK → Prop, CallR X f r ∧ ∀ (xs : List D) (z : D), g xs = some z → ∀ (T : List (Addr × Str)) (wd : Wd) (H : Hp) (vs : List V) (Q : VK), Good T wd H → Reps X.K wd vs xs → Del X.K wd H z Q → r vs H Q
def DelF (K : PySem.W.Frag) (wd : Wd) (H : Hp) (zs : List D) (Q : VK) : Prop := ∀ (p : Addr) (us : List V), H p = none → Reps K wd us zs → us.length ≤ sizeLine → Q (.ref p) (upd H p (.lst us))
structure CallF (X : Cx) (f : Value) (g : D → Option (List D)) : Prop where
  ex : ∃ r : List V → Hp → VK → Prop, CallR X f r ∧ ∀ (x : D) (zs : List D), g x = some zs → ∀ (T : List (Addr × Str)) (wd : Wd) (H : Hp) (v : V) (Q : VK), Good T wd H → Top X.K wd H v x → DelF X.K wd H zs Q → r [v] H Q
def w1 (g : D → Option D) (a : W D) : W D := a.bind fun x => .opt (g x)
def wN (g : List D → Option D) (a : W (List D)) : W D := a.bind fun x => .opt (g x)
def w1F (g : D → Option (List D)) (a : W D) : W (List D) := a.bind fun x => .opt (g x)
section
variable {x : Str} {p pos : Pos} {e : Expr} {es : List Expr} {id ty : String} {a : W D} {w : W (List D)}
theorem lift_1 {r : List V → Hp → VK → Prop} {g : D → Option D} {σ : L2.St} {H : Hp} {Q : VK}
    (hr : ∀ (x z : D), g x = some z → ∀ (T : List (Addr × Str)) (wd : Wd) (H : Hp) (v : V) (Q : VK), Good T wd H → Top X.K wd H v x → Del X.K wd H z Q → r [v] H Q)
    (h : lift X.K T (rE X.K) E (w1 g a) σ H Q) : tCB r (tCons (lift X.K T (rB X.K) E a) tNil) σ H Q := by
  obtain ⟨c, wd, env, P, Ex, rl, h, xo, k⟩ := h
  refine ⟨c, wd, env, _, Ex, rl, h, xo, fun x env1 h1 v wd1 H1 le1 r1 tp => ?_⟩
  obtain ⟨z, e1, h2⟩ := opt_inv h1
  exact hr x z e1 T wd1 H1 v Q r1.good tp fun w wd2 H2 g2 rp => k z env1 h2 w wd2 H2 (le1.trans (g2.le r1.good)) (r1.grow g2) rp
theorem lift_1F {r : List V → Hp → VK → Prop} {g : D → Option (List D)} {σ : L2.St} {H : Hp} {Q : VK}
    (hr : ∀ (x : D) (zs : List D), g x = some zs → ∀ (T : List (Addr × Str)) (wd : Wd) (H : Hp) (v : V) (Q : VK), Good T wd H → Top X.K wd H v x → DelF X.K wd H zs Q → r [v] H Q)
    (h : lift X.K T (rF X.K) E (w1F g a) σ H Q) : tCB r (tCons (lift X.K T (rB X.K) E a) tNil) σ H Q := by
  obtain ⟨c, wd, env, P, Ex, rl, h, xo, k⟩ := h
  refine ⟨c, wd, env, _, Ex, rl, h, xo, fun x env1 h1 v wd1 H1 le1 r1 tp => ?_⟩
  obtain ⟨z, e1, h2⟩ := opt_inv h1
  refine hr x z e1 T wd1 H1 v Q r1.good tp fun p us hp ru hz => ?_
  obtain ⟨r2, f⟩ := r1.fresh hp ru hz
  exact k z env1 h2 _ wd1 _ le1 r2 f
theorem lift_N {r : List V → Hp → VK → Prop} {g : List D → Option D} {σ : L2.St} {H : Hp} {Q : VK}
    (hr : ∀ (xs : List D) (z : D), g xs = some z → ∀ (T : List (Addr × Str)) (wd : Wd) (H : Hp) (vs : List V) (Q : VK), Good T wd H → Reps X.K wd vs xs → Del X.K wd H z Q → r vs H Q)
    (h : lift X.K T (rE X.K) E (wN g w) σ H Q) : tCB r (lift X.K T (rA X.K) E w) σ H Q := by
  obtain ⟨c, wd, env, P, Ex, rl, h, xo, k⟩ := h
  refine ⟨c, wd, env, _, Ex, rl, h, xo, fun x env1 h1 v wd1 H1 le1 r1 tp => ?_⟩
  obtain ⟨z, e1, h2⟩ := opt_inv h1
  exact hr x z e1 T wd1 H1 v Q r1.good tp fun w wd2 H2 g2 rp => k z env1 h2 w wd2 H2 (le1.trans (g2.le r1.good)) (r1.grow g2) rp
theorem je_b1 {g : D → Option D} (hc : CallB X (.builtin id) g) (hm : X.mg x = none) (hv : bootBuiltins x = some (.builtin id)) (ha : JB T X E e a) (hg : Gl X x := by rfl) (hn : x ≠ "__name__" := by decide) (hdb : (x == ("__debug__" : Str)) = false := by decide)
    (hs : starEach [e] X.env = (false, eval e X.env) :: starEach [] X.env := by rfl) (hpl : (backTo pos (starEach [] X.env)).any (·.1) = false := by rfl) : JE T X E (.Call (.Name x p) [e] [] pos) (w1 g a) := by
  obtain ⟨r, h1, h2⟩ := hc.ex
  exact peI (pe_callB h1 hg hm hv (pa_cons ha pa_nil hs) hn hdb hs hpl) fun σ H Q h => lift_1 h2 h
theorem je_t1 {g : D → Option D} (hc : CallB X (.type ty) g) (hm : X.mg x = none) (hv : bootBuiltins x = some (.type ty)) (ha : JB T X E e a) (hg : Gl X x := by rfl) (hn : x ≠ "__name__" := by decide) (hdb : (x == ("__debug__" : Str)) = false := by decide)
    (hs : starEach [e] X.env = (false, eval e X.env) :: starEach [] X.env := by rfl) (hpl : (backTo pos (starEach [] X.env)).any (·.1) = false := by rfl) : JE T X E (.Call (.Name x p) [e] [] pos) (w1 g a) := by
  obtain ⟨r, h1, h2⟩ := hc.ex
  exact peI (pe_callTy h1 hg hm hv (pa_cons ha pa_nil hs) hn hdb hs hpl) fun σ H Q h => lift_1 h2 h
theorem jf_t1 {g : D → Option (List D)} (hc : CallF X (.type ty) g) (hm : X.mg x = none) (hv : bootBuiltins x = some (.type ty)) (ha : JB T X E e a) (hg : Gl X x := by rfl) (hn : x ≠ "__name__" := by decide) (hdb : (x == ("__debug__" : Str)) = false := by decide)
    (hs : starEach [e] X.env = (false, eval e X.env) :: starEach [] X.env := by rfl) (hpl : (backTo pos (starEach [] X.env)).any (·.1) = false := by rfl) : JF T X E (.Call (.Name x p) [e] [] pos) (w1F g a) := by
  obtain ⟨r, h1, h2⟩ := hc.ex
  exact peI (pe_callTy h1 hg hm hv (pa_cons ha pa_nil hs) hn hdb hs hpl) fun σ H Q h => lift_1F h2 h
theorem je_bN {g : List D → Option D} (hc : CallN X (.builtin id) g) (hm : X.mg x = none) (hv : bootBuiltins x = some (.builtin id)) (ha : JA T X E (e :: es) w) (hg : Gl X x := by rfl) (hn : x ≠ "__name__" := by decide) (hdb : (x == ("__debug__" : Str)) = false := by decide)
    (hs : starEach (e :: es) X.env = (false, eval e X.env) :: starEach es X.env := by rfl) (hpl : (backTo pos (starEach es X.env)).any (·.1) = false := by rfl) : JE T X E (.Call (.Name x p) (e :: es) [] pos) (wN g w) := by
  obtain ⟨r, h1, h2⟩ := hc.ex
  exact peI (pe_callB h1 hg hm hv ha hn hdb hs hpl) fun σ H Q h => lift_N h2 h
end
def dLen : D → Option D
  | .tup xs => some (.int xs.length)
  | .lst xs => some (.int xs.length)
  | .scr ns => some (.int ns.length)
  | .str z => if z.length ≤ 1000000 then some (.int z.length) else none
  | _ => none
theorem top_lst {K : PySem.W.Frag} {wd : Wd} {H : Hp} {v : V} {xs : List D} (g : Good T wd H) (t : Top K wd H v (.lst xs)) : ∃ (p : Addr) (vs : List V), v = .ref p ∧ H p = some (.lst vs) ∧ Reps K wd vs xs := by
  rcases t with h | ⟨p, vs, ys, rfl, e, h1, h2⟩
  · cases h with
    | lst h1 h2 => exact ⟨_, _, rfl, g.sub _ _ h1, h2⟩
  · cases e
    exact ⟨p, vs, rfl, h1, h2⟩
theorem top_tup {K : PySem.W.Frag} {wd : Wd} {H : Hp} {v : V} {xs : List D} (g : Good T wd H) (t : Top K wd H v (.tup xs)) : ∃ (p : Addr) (vs : List V), v = .ref p ∧ SqT K H p vs ∧ wd.M p = some (.tup vs) ∧ Reps K wd vs xs := by
  rcases t with h | ⟨p, vs, ys, rfl, e, h1, h2⟩
  · cases h with
    | tup h1 h2 => exact ⟨_, _, rfl, sub_sqT g h1, h1, h2⟩
  · cases e
theorem top_rep {K : PySem.W.Frag} {wd : Wd} {H : Hp} {v : V} {d : D} (t : Top K wd H v d) (h : ∀ xs, d ≠ .lst xs) : Rep K wd v d := by
  rcases t with t | ⟨p, vs, ys, rfl, e, h1, h2⟩
  · exact t
  · exact absurd e (h ys)
theorem cb_len : CallB X (.builtin "len") dLen := ⟨_, call_len, fun x z e T wd H v Q g t d => by
  cases x with
  | tup xs =>
    cases e
    obtain ⟨p, vs, rfl, h1, _, h2⟩ := top_tup g t
    exact ⟨_, _, rfl, .inr ⟨_, h1, h2.length.symm⟩, d.now (.int _)⟩
  | lst xs =>
    cases e
    obtain ⟨p, vs, rfl, h1, h2⟩ := top_lst g t
    exact ⟨_, _, rfl, .inl ⟨_, .inl (.inl h1), h2.length.symm⟩, d.now (.int _)⟩
  | scr ns =>
    cases e
    cases top_rep t (fun _ z => nomatch z) with
    | scr h => exact ⟨_, _, rfl, .inl ⟨_, sub_sqS g h, (List.length_map ..).symm⟩, d.now (.int _)⟩
  | str y =>
    obtain ⟨h, rfl⟩ := ite_some e
    cases top_rep t (fun _ z => nomatch z)
    exact ⟨_, _, rfl, ⟨sz6 h, rfl⟩, d.now (.int _)⟩
  | _ => cases e⟩
def asBools : List D → Option (List Bool)
  | [] => some []
  | .bl b :: r => (asBools r).map (b :: ·)
  | _ => none
def asInts : List D → Option (List Int)
  | [] => some []
  | .int b :: r => (asInts r).map (b :: ·)
  | _ => none
theorem asBools_eq : ∀ {xs : List D} {bs : List Bool}, asBools xs = some bs → xs = bs.map D.bl
  | [], _, h => by cases h; rfl
  | .bl b :: r, bs, h => by
    have h' : (asBools r).map (b :: ·) = some bs := h
    obtain ⟨cs, e, rfl⟩ := Option.map_eq_some_iff.mp h'
    rw [asBools_eq e]
    rfl
  | .non :: _, _, h => by cases h
  | .int _ :: _, _, h => by cases h
  | .str _ :: _, _, h => by cases h
  | .tup _ :: _, _, h => by cases h
  | .lst _ :: _, _, h => by cases h
  | .scr _ :: _, _, h => by cases h
  | .dic _ :: _, _, h => by cases h
  | .dit _ :: _, _, h => by cases h
  | .ins _ _ :: _, _, h => by cases h
  | .box _ :: _, _, h => by cases h
  | .raw _ :: _, _, h => by cases h
  | .cls _ :: _, _, h => by cases h
theorem asInts_eq : ∀ {xs : List D} {bs : List Int}, asInts xs = some bs → xs = bs.map D.int
  | [], _, h => by cases h; rfl
  | .int b :: r, bs, h => by
    have h' : (asInts r).map (b :: ·) = some bs := h
    obtain ⟨cs, e, rfl⟩ := Option.map_eq_some_iff.mp h'
    rw [asInts_eq e]
    rfl
  | .non :: _, _, h => by cases h
  | .bl _ :: _, _, h => by cases h
  | .str _ :: _, _, h => by cases h
  | .tup _ :: _, _, h => by cases h
  | .lst _ :: _, _, h => by cases h
  | .scr _ :: _, _, h => by cases h
  | .dic _ :: _, _, h => by cases h
  | .dit _ :: _, _, h => by cases h
  | .ins _ _ :: _, _, h => by cases h
  | .box _ :: _, _, h => by cases h
  | .raw _ :: _, _, h => by cases h
  | .cls _ :: _, _, h => by cases h
theorem asInts_map : ∀ ns : List Int, asInts (ns.map D.int) = some ns
  | [] => rfl
  | n :: ns => by
    show (asInts (ns.map D.int)).map (n :: ·) = some (n :: ns)
    rw [asInts_map ns]
    rfl
theorem asBools_map : ∀ ns : List Bool, asBools (ns.map D.bl) = some ns
  | [] => rfl
  | n :: ns => by
    show (asBools (ns.map D.bl)).map (n :: ·) = some (n :: ns)
    rw [asBools_map ns]
    rfl
def dAll : D → Option D
  | .lst xs => (asBools xs).map fun bs => .bl (bs.all id)
  | _ => none
def dAny : D → Option D
  | .lst xs => (asBools xs).map fun bs => .bl (bs.any id)
  | _ => none
theorem cb_all (hc : X.calm = true) : CallB X (.builtin "all") dAll := ⟨_, cr_all hc, fun x z e T wd H v Q g t d => by
  cases x with
  | lst xs =>
    obtain ⟨bs, e1, rfl⟩ := Option.map_eq_some_iff.mp e
    obtain ⟨p, vs, rfl, h1, h2⟩ := top_lst g t
    rw [asBools_eq e1] at h2
    rw [h2.bools] at h1
    exact ⟨_, bs, rfl, .inl (.inl h1), d.now (.bl _)⟩
  | _ => cases e⟩
theorem cb_any (hc : X.calm = true) : CallB X (.builtin "any") dAny := ⟨_, cr_any hc, fun x z e T wd H v Q g t d => by
  cases x with
  | lst xs =>
    obtain ⟨bs, e1, rfl⟩ := Option.map_eq_some_iff.mp e
    obtain ⟨p, vs, rfl, h1, h2⟩ := top_lst g t
    rw [asBools_eq e1] at h2
    rw [h2.bools] at h1
    exact ⟨_, bs, rfl, .inl (.inl h1), d.now (.bl _)⟩
  | _ => cases e⟩
theorem sum_tup {prog : Program} {w : World} {A : Around} {E : Value → Shared → Prop} {s : Shared} {l : Addr} {its : List Value} {ns : List Int} {Q : Value → Shared → Prop} (hh : A.handled = none) (hl : s.heap.IsTuple l its.toArray) (hi : IntsAre its ns)
    (h : ∀ h' tk t', (∀ b o, s.heap.get? b = some o → h'.get? b = some o) → Q (.int ns.sum t') { s with heap := h', toks := tk }) : wpAny (model prog w) A (call (.builtin "sum") [.ref l]) Q E s := by
  obtain ⟨xs, e⟩ := hi.allInts.items
  have hn : numsOf (intItems xs).toList = ns := by rw [← e]; exact hi.numsOf
  rw [nums_intItems] at hn
  rw [e] at hl
  have lt : l < s.heap.objs.size := by
    obtain ⟨o, ho, _⟩ := id hl
    exact Heap.lt_size ho
  refine call_sum_walkG (wpAny_pyIter_tuple hl ?_)
  refine ⟨_, _, _, _, _, _, numAt xs, rfl, Walks.tuple (A := A.in1) hh s.heap.objs.size l (Nat.ne_of_lt lt) (intItems xs), ⟨⟨_, Heap.get?_push_size _ rfl, rfl, rfl⟩, hl.push _⟩, fun b hb => ?_, (fun _ _ => intItems_at), fun h' tk t' hk => ?_⟩
  · show b < (s.heap.push _).objs.size
    rw [Heap.size_push]
    rcases List.mem_cons.mp hb with rfl | hb
    · exact Nat.lt_succ_self _
    · rw [List.mem_singleton.mp hb]
      exact Nat.lt_succ_of_lt lt
  · have z := h h' tk t' fun b o q => hk b o (fun hb => by
      rw [List.mem_singleton.mp hb] at q
      exact absurd (Heap.lt_size q) (Nat.lt_irrefl _)) (Heap.get?_push_of_some _ q)
    have e2 : preSum (numAt xs) (intItems xs).size = ns.sum := by
      rw [show (intItems xs).size = xs.size by simp [intItems], preSum_eq, List.take_of_length_le (by simp), hn]
    rw [e2]
    exact z
def rSumT (K : PySem.W.Frag) : List V → Hp → VK → Prop := fun vs H Q => ∃ (a : Addr) (ns : List Int), vs = [V.ref a] ∧ SqT K H a (ns.map V.int) ∧ Q (.int ns.sum) H
theorem cr_sumT (hc : X.calm = true) : CallR X (.builtin "sum") (rSumT X.K) := by
  rintro pins s σ H vs us Q I r ⟨a, ns, rfl, hs, q⟩
  obtain ⟨its, rv, hl, _⟩ := I.tuple hs
  rw [Vals.ref1 r]
  exact sum_tup (I.ok.hd hc) hl rv.ints fun h' tk t' hk => ⟨.int _, H, I.kept hk, ⟨_, rfl⟩, q⟩
def dSum : D → Option D
  | .lst xs => (asInts xs).map fun bs => .int bs.sum
  | .tup xs => (asInts xs).map fun bs => .int bs.sum
  | _ => none
theorem cb_sum (hc : X.calm = true) : CallB X (.builtin "sum") dSum := ⟨_, (cr_sum hc).or (cr_sumT hc), fun x z e T wd H v Q g t d => by
  cases x with
  | lst xs =>
    obtain ⟨bs, e1, rfl⟩ := Option.map_eq_some_iff.mp e
    obtain ⟨p, vs, rfl, h1, h2⟩ := top_lst g t
    rw [asInts_eq e1] at h2
    rw [h2.ints] at h1
    exact .inl ⟨_, bs, rfl, .inl (.inl h1), d.now (.int _)⟩
  | tup xs =>
    obtain ⟨bs, e1, rfl⟩ := Option.map_eq_some_iff.mp e
    obtain ⟨p, vs, rfl, h1, _, h2⟩ := top_tup g t
    rw [asInts_eq e1] at h2
    rw [h2.ints] at h1
    exact .inr ⟨_, bs, rfl, h1, d.now (.int _)⟩
  | _ => cases e⟩
def dAbs : List D → Option D
  | [.int i] => some (.int (if i < 0 then -i else i))
  | _ => none
theorem cn_abs : CallN X (.builtin "abs") dAbs := ⟨_, call_abs, fun xs z e T wd H vs Q g r d => by
  unfold dAbs at e
  split at e
  · cases e
    cases r with
    | cons a b =>
      cases a
      cases b
      exact ⟨_, rfl, d.now (.int _)⟩
  · cases e⟩
def dMax2 : List D → Option D
  | [.int i, .int j] => some (.int (if j > i then j else i))
  | _ => none
def dMin2 : List D → Option D
  | [.int i, .int j] => some (.int (if j < i then j else i))
  | _ => none
theorem cn_max2 (hc : X.calm = true) : CallN X (.builtin "max") dMax2 := ⟨_, call_max2 hc, fun xs z e T wd H vs Q g r d => by
  unfold dMax2 at e
  split at e
  · cases e
    cases r with
    | cons a b =>
      cases a
      cases b with
      | cons a b =>
        cases a
        cases b
        exact ⟨_, _, rfl, d.now (.int _)⟩
  · cases e⟩
theorem cn_min2 (hc : X.calm = true) : CallN X (.builtin "min") dMin2 := ⟨_, call_min2 hc, fun xs z e T wd H vs Q g r d => by
  unfold dMin2 at e
  split at e
  · cases e
    cases r with
    | cons a b =>
      cases a
      cases b with
      | cons a b =>
        cases a
        cases b
        exact ⟨_, _, rfl, d.now (.int _)⟩
  · cases e⟩
def dInt : D → Option D
  | .int i => some (.int i)
  | .bl b => some (.int (if b then 1 else 0))
  | _ => none
theorem cb_int : CallB X (.type "int") dInt := ⟨_, call_int1, fun x z e T wd H v Q g t d => by
  cases x with
  | int i =>
    cases e
    cases top_rep t (fun _ z => nomatch z)
    exact .inl ⟨_, rfl, d.now (.int _)⟩
  | bl b =>
    cases e
    cases top_rep t (fun _ z => nomatch z)
    exact .inr ⟨_, rfl, d.now (.int _)⟩
  | _ => cases e⟩
def dTuple : D → Option D
  | .lst xs => some (.tup xs)
  | .tup xs => some (.tup xs)
  | _ => none
theorem cb_tuple : CallB X (.type "tuple") dTuple := ⟨_, call_tuple_of, fun x z e T wd H v Q g t d => by
  cases x with
  | lst xs =>
    cases e
    obtain ⟨p, vs, rfl, h1, h2⟩ := top_lst g t
    exact ⟨_, _, rfl, .inl ⟨.inl (.inl h1), fun l hl => d.tup g hl h2 (g.siz _ _ h1)⟩⟩
  | tup xs =>
    cases e
    obtain ⟨p, vs, rfl, h1, h3, h2⟩ := top_tup g t
    exact ⟨_, _, rfl, .inr ⟨h1, d.now (.tup h3 h2)⟩⟩
  | _ => cases e⟩
def dItems : D → Option (List D)
  | .lst xs => some xs
  | .tup xs => some xs
  | _ => none
theorem cf_list : CallF X (.type "list") dItems := ⟨_, call_list_of, fun x zs e T wd H v Q g t d => by
  cases x with
  | lst xs =>
    cases e
    obtain ⟨p, vs, rfl, h1, h2⟩ := top_lst g t
    exact ⟨_, _, rfl, .inl (.inl (.inl h1)), fun l hl => d l vs hl h2 (g.siz _ _ h1)⟩
  | tup xs =>
    cases e
    obtain ⟨p, vs, rfl, h1, h3, h2⟩ := top_tup g t
    exact ⟨_, _, rfl, .inr h1, fun l hl => d l vs hl h2 (siz_sqT g h3)⟩
  | _ => cases e⟩
def dTy : D → Option String
  | .non => some "NoneType"
  | .bl _ => some "bool"
  | .int _ => some "int"
  | .str _ => some "str"
  | .tup _ => some "tuple"
  | .lst _ => some "list"
  | .dic _ => some "dict"
  | _ => none
def isa (s t : String) : Bool := s == t || (s == "bool" && t == "int")
def dIsi (t : String) : D → Option D := fun x => (dTy x).map fun s => .bl (isa s t)
theorem rep_ty {K : PySem.W.Frag} {wd : Wd} {H : Hp} {v : V} {d : D} {s : String} (g : Good T wd H) (r : Rep K wd v d) (h : dTy d = some s) : TyX K H v (.type s) := by
  cases r <;> cases h
  · exact .base .non
  · exact .base (.bl _)
  · exact .base (.int _)
  · exact .base (.str _)
  · rename_i hs _
    exact .base (.tup (g.sub _ _ hs))
  · exact .base (.lst (g.sub _ _ ‹_›))
  · exact .base (.dK (g.sub _ _ ‹_›))
structure IsT (t : String) : Prop where
  h : ∀ s ∈ ["NoneType", "bool", "int", "str", "tuple", "list", "dict"], kitB s t = some (isa s t)
theorem isT_int : IsT "int" := ⟨by decide +kernel⟩
theorem isT_bool : IsT "bool" := ⟨by decide +kernel⟩
theorem isT_tuple : IsT "tuple" := ⟨by decide +kernel⟩
theorem je_isi {t : String} {y : Str} {e : Expr} {a : W D} {p p2 pos : Pos} (ht : IsT t) (hm : X.mg "isinstance" = none) (hm2 : X.mg y = none) (hv2 : bootBuiltins y = some (.type t)) (ha : JE T X E e a)
    (hg : Gl X "isinstance" := by rfl) (hg2 : Gl X y := by rfl) (hn : y ≠ "__name__" := by decide) (hdb : (y == ("__debug__" : Str)) = false := by decide)
    (hs : starEach [e, .Name y p2] X.env = (false, eval e X.env) :: starEach [.Name y p2] X.env := by rfl) (hs2 : starEach [.Name y p2] X.env = (false, eval (.Name y p2) X.env) :: starEach [] X.env := by rfl) (hpl : (backTo pos (starEach [.Name y p2] X.env)).any (·.1) = false := by rfl) :
    JE T X E (.Call (.Name "isinstance" p) [e, .Name y p2] [] pos) (w1 (dIsi t) a) := by
  refine peI (pe_callB call_isi hg hm (by decide +kernel) (pa_cons ha (pa_cons (pe_bltn (v := .ty t) hg2 hm2 hv2 rfl hn hdb) pa_nil hs2) hs) (by decide) (by decide) hs hpl) fun σ H Q ⟨c, wd, env, P, Ex, rl, h, xo, k⟩ => ?_
  refine ⟨c, wd, env, _, Ex, rl, h, xo, fun x env1 h1 v wd1 H1 le1 r1 rp => ?_⟩
  obtain ⟨z, e1, h2⟩ := opt_inv h1
  obtain ⟨s, e2, rfl⟩ := Option.map_eq_some_iff.mp e1
  refine ⟨v, .ty t, .type s, .type t, isa s t, rfl, .ty t, rep_ty r1.good rp e2, kit_ty (ht.h s ?_), k _ env1 h2 _ wd1 H1 le1 r1 (.bl _)⟩
  cases x <;> cases e2 <;> decide
end
end Pd

namespace Pd
open PySem PySem.Spec PyProof.Rows L2 LamX

mutual
theorem reads_lt {h : Heap} : ∀ {v : Value} {d : PyData} {as : List Addr}, Reads h v d as → ∀ b ∈ as, b < h.objs.size
  | _, _, _, .none => fun b hb => absurd hb (by simp)
  | _, _, _, .bool _ => fun b hb => absurd hb (by simp)
  | _, _, _, .int _ _ => fun b hb => absurd hb (by simp)
  | _, _, _, .str _ _ => fun b hb => absurd hb (by simp)
  | _, _, _, .list h1 _ _ h4 => fun b hb => by
    rcases List.mem_cons.mp hb with rfl | hb
    · exact Heap.lt_size h1
    · exact readsAll_lt h4 b hb
  | _, _, _, .tuple _ _ _ h4 => fun b hb => readsAll_lt h4 b hb
  | _, _, _, .dict h1 _ _ h4 h5 => fun b hb => by
    rcases List.mem_append.mp hb with hb | hb
    · rcases List.mem_cons.mp hb with rfl | hb
      · exact Heap.lt_size h1
      · exact readsAll_lt h4 b hb
    · exact readsAll_lt h5 b hb
theorem readsAll_lt {h : Heap} : ∀ {vs : List Value} {ds : List PyData} {as : List Addr}, ReadsAll h vs ds as → ∀ b ∈ as, b < h.objs.size
  | _, _, _, .nil => fun b hb => absurd hb (by simp)
  | _, _, _, .cons h1 h2 => fun b hb => (List.mem_append.mp hb).elim (reads_lt h1 b) (readsAll_lt h2 b)
end
section
variable {prog : Program} {w : World} {A : Around} {E : Value → Shared → Prop} {s : Shared}
theorem sorted_after {T : String} (hT : T = "list" ∨ T = "tuple") {a : Addr} {o : Obj} {vs : List Value} {n : Nat} {kw : List (Str × Value)} {Q : Value → Shared → Prop} (ho : s.heap.get? a = some o) (hc : o.cls = .type T) (hd : o.data = .seq vs.toArray n) (hz : vs.length ≤ sizeLine)
    (ha : argsOk "sorted" ⟨[.ref a], kw⟩)
    (h : ∀ h1 : Heap, (∀ b u, s.heap.get? b = some u → h1.get? b = some u) →
      wpAny (model prog w) A.in1 (call (.builtin "list.sort") [.ref h1.objs.size] kw) (fun _ s' => Q (.ref h1.objs.size) s') E { s with heap := h1.push (seqObj "list" vs.toArray 0) }) :
    wpAny (model prog w) A (call (.builtin "sorted") [.ref a] kw) Q E s := by
  refine call_function_entry_kw kind_sorted plain_sorted entry_sorted ha ?_
  unfold Builtin.«sorted»
  refine wpAny_bind (m := checkCount "sorted" 1 1 _) (wpAny_pure ?_)
  refine wpAny_bind (wpAny_collect_seq a hT ho hc hd (fun h1 k1 => ?_) (by simpa using hz))
  refine wpAny_bind (wpAny_newList ?_ (by simpa using hz))
  have g := h h1 k1
  refine wpAny_bind (wpAny_holding (wpAny_mono ?_ (fun _ s' x => wpAny_pure ⟨_, rfl, x⟩) fun _ _ e => e))
  simpa using g
end
section
variable {X : Cx} {pins : List (Addr × Obj)} {σ : L2.St} {H : Hp} {s : Shared}
theorem each_of {K : PySem.W.Frag} {wd : Wd} : ∀ {vs : List V} {its : List Value} {xs : List D}, Reps K wd vs xs → Vals vs its → PySem.W.EachIs (fun u d => ∃ v, RelV v u ∧ Rep K wd v d) its xs
  | _, _, _, .nil, .nil => .nil
  | _, _, _, .cons a b, .cons r t => .cons ⟨_, r, a⟩ (each_of b t)
theorem of_each {K : PySem.W.Frag} {wd : Wd} : ∀ {its : List Value} {xs : List D}, PySem.W.EachIs (fun u d => ∃ v, RelV v u ∧ Rep K wd v d) its xs → ∃ vs, Vals vs its ∧ Reps K wd vs xs
  | _, _, .nil => ⟨[], .nil, .nil⟩
  | _, _, .cons ⟨v, r, a⟩ t => by
    obtain ⟨vs, h1, h2⟩ := of_each t
    exact ⟨v :: vs, .cons r h1, .cons a h2⟩
theorem each_reads {T : List (Addr × Str)} {wd : Wd} {p : Addr} (g : Good T wd H) (I : Inv X pins σ H s) (hp : s.heap.objs.size ≤ p) {h2 : Heap} (kk : ∀ b u, s.heap.get? b = some u → h2.get? b = some u) (n : Nat) : ∀ {vs : List V} {its : List Value} {xs : List D}, xs.all (plain n) = true → Reps X.K wd vs xs → Vals vs its →
    PySem.W.EachIs (fun v b => ∃ as, Reads h2 v (toPy b) as ∧ p ∉ as) its xs
  | _, _, _, _, .nil, .nil => .nil
  | _, _, _, h, .cons a b, .cons r t => by
    rw [List.all_cons, Bool.and_eq_true] at h
    obtain ⟨as, ra⟩ := Dp.reads I _ _ _ (rep_dp g n h.1 a) r
    refine .cons ⟨as, PyProof.Rows.Reads.keeps kk ra, fun hm => ?_⟩ (each_reads g I hp kk n h.2 b t)
    exact absurd (Nat.lt_of_lt_of_le (reads_lt ra p hm) hp) (Nat.lt_irrefl _)
structure Srt (xs : List D) : Prop where
  pl : xs.all (plain 50) = true
  al : PySem.W.AllAlike (xs.map toPy)
  so : PySem.W.Sortable (xs.map toPy)
abbrev leD (b : Bool) : D → D → Bool := PySem.W.dataLe b toPy
theorem sort_run {T : List (Addr × Str)} {wd : Wd} {b : Bool} {xs : List D} {vs : List V} {its : List Value} {h1 : Heap} {Q : VK} {kw : List (Str × Value)} (hk : (b = false ∧ kw = []) ∨ kw = [(Str.ofString "reverse", .bool b)]) (g : Good T wd H) (I : Inv X pins σ H { s with heap := h1 }) (rs : Reps X.K wd vs xs) (rv : Vals vs its) (hz : vs.length ≤ sizeLine) (hu : X.A.units + 200 < cLine) (S : Srt xs)
    (q : DelF X.K wd H (xs.mergeSort (leD b)) Q) : wpAny (model X.prog X.w) X.A.in1 (call (.builtin "list.sort") [.ref h1.objs.size] kw) (fun _ s' => EP X pins σ Q (.ref h1.objs.size) s') X.xe { s with heap := h1.push (seqObj "list" its.toArray 0) } := by
  have ho : (h1.push (seqObj "list" its.toArray 0)).get? h1.objs.size = some (seqObj "list" its.toArray 0) := Heap.get?_push_size _ rfl
  have kk : ∀ c u, h1.get? c = some u → (h1.push (seqObj "list" its.toArray 0)).get? c = some u := fun c u z => Heap.get?_push_of_some _ z
  have er := each_reads (s := { s with heap := h1 }) (p := h1.objs.size) g I (Nat.le_refl _) kk 50 S.pl rs rv
  have e := each_of rs rv
  have hL : xs.length ≤ sizeLine := by rw [← rs.length]; exact hz
  have dep : ∀ d ∈ xs, X.A.in1.units + 1 + (toPy d).depth < cLine := fun d hd => by
    have := (plain_lay 50 d (List.all_eq_true.mp S.pl d hd)).2
    show X.A.units + 1 + 1 + (toPy d).depth < cLine
    omega
  have fin : ∀ out : List Value, out.length = xs.length → PySem.W.EachIs (fun u d => ∃ v, RelV v u ∧ Rep X.K wd v d) out (xs.mergeSort (leD b)) →
      EP X pins σ Q (.ref h1.objs.size) { s with heap := sortedHeap (h1.push (seqObj "list" its.toArray 0)) h1.objs.size its (List.toArray out) } := fun out hl eo => by
    obtain ⟨us, u1, u2⟩ := of_each eo
    obtain ⟨ep, he⟩ := sortedHeap_at (out := out.toArray) ho
    have hzu : us.length ≤ sizeLine := by
      rw [u1.length, hl]
      exact hL
    refine ⟨.ref h1.objs.size, upd H h1.objs.size (.lst us), I.laid (t' := s.toks) (fun c u z => ?_) (Nat.le_refl _) ⟨hzu, out, ep, u1, he⟩, rfl, q _ us (I.hok.fresh (Nat.le_refl _)) u2 hzu⟩
    have zl : c < h1.objs.size := Heap.lt_size z
    rw [sortedHeap_old (Nat.ne_of_lt zl) (by rw [Heap.size_push]; exact Nat.lt_succ_of_lt zl)]
    exact kk c u z
  rcases hk with ⟨rfl, rfl⟩ | rfl
  · exact PySem.W.list_sort_data (s := { s with heap := h1.push (seqObj "list" its.toArray 0) }) (enc := toPy) ho e er S.al S.so hL dep fin
  · exact PySem.W.list_sort_rev_data (s := { s with heap := h1.push (seqObj "list" its.toArray 0) }) (enc := toPy) ho e er S.al S.so hL dep fin
def rSrt (K : PySem.W.Frag) (b : Bool) (v : V) (H : Hp) (Q : VK) : Prop := ∃ (T : List (Addr × Str)) (wd : Wd) (x : D) (xs : List D), Good T wd H ∧ Top K wd H v x ∧ dItems x = some xs ∧ Srt xs ∧ DelF K wd H (xs.mergeSort (leD b)) Q
theorem sorted_ok {b : Bool} {v : V} {u : Value} {Q : VK} {kw : List (Str × Value)} (hk : (b = false ∧ kw = []) ∨ kw = [(Str.ofString "reverse", .bool b)]) (hu : X.A.units + 200 < cLine) (I : Inv X pins σ H s) (r : RelV v u) (h : rSrt X.K b v H Q) :
    wpAny (model X.prog X.w) X.A (call (.builtin "sorted") [u] kw) (EP X pins σ Q) X.xe s := by
  obtain ⟨T, wd, x, xs, g, t, ei, S, q⟩ := h
  have args : ∀ a : Value, argsOk "sorted" ⟨[a], kw⟩ := fun a => by
    rcases hk with ⟨_, rfl⟩ | rfl
    · exact args_sorted1 a
    · exact args_sorted_rev a _
  cases x with
  | lst ys =>
    cases ei
    obtain ⟨p, vs, rfl, h1, h2⟩ := top_lst g t
    cases r
    obtain ⟨hz, its, n, rv, ho⟩ := I.hok p _ h1
    exact sorted_after (.inl rfl) ho rfl rfl (by rw [← rv.length]; exact hz) (args _) fun hh kk => sort_run hk g (I.kept (t' := s.toks) kk) h2 rv hz hu S q
  | tup ys =>
    cases ei
    obtain ⟨p, vs, rfl, h1, h3, h2⟩ := top_tup g t
    cases r
    obtain ⟨its, rv, ⟨o, ho, hc, n, hd⟩, hz⟩ := I.tuple h1
    have hz2 : vs.length ≤ sizeLine := siz_sqT g h3
    exact sorted_after (.inr rfl) ho hc hd (by rw [← rv.length]; exact hz2) (args _) fun hh kk => sort_run hk g (I.kept (t' := s.toks) kk) h2 rv hz2 hu S q
  | _ => cases ei
end
section
variable {X : Cx} {T : List (Addr × Str)} {E : XK} {k : Nat}
def wSort (b : Bool) (a : W D) : W (List D) := a.bind fun x env Q _ => ∃ xs, dItems x = some xs ∧ Srt xs ∧ Q (xs.mergeSort (leD b)) env
theorem cr_srt (hu : X.A.units + 200 < cLine) : CallR X (.builtin "sorted") (fun vs H Q => ∃ v, vs = [v] ∧ rSrt X.K false v H Q) := by
  rintro pins s σ H vs us Q I r ⟨v, rfl, h⟩
  obtain ⟨u, rfl, ru⟩ := vals1 r
  exact sorted_ok (.inl ⟨rfl, rfl⟩) hu I ru h
theorem jf_sorted {e : Expr} {a : W D} {p pos : Pos} (B : Bd X E k) (hm : X.mg "sorted" = none) (ha : JB T X E e a) (hg : Gl X "sorted" := by rfl)
    (hs : starEach [e] X.env = (false, eval e X.env) :: starEach [] X.env := by rfl) (hpl : (backTo pos (starEach [] X.env)).any (·.1) = false := by rfl) : JF T X E (.Call (.Name "sorted" p) [e] [] pos) (wSort false a) := by
  have hu : X.A.units + 200 < cLine := by have := B.room.un; omega
  refine peI (pe_callB (cr_srt hu) hg hm (by decide +kernel) (pa_cons ha pa_nil hs) (by decide) (by decide) hs hpl) fun σ H Q ⟨c, wd, env, P, Ex, rl, h, xo, kk⟩ => ?_
  refine ⟨c, wd, env, _, Ex, rl, h, xo, fun x env1 ⟨xs, e1, S, h1⟩ v wd1 H1 le1 r1 tp => ⟨v, rfl, T, wd1, x, xs, r1.good, tp, e1, S, fun p us hp ru hz => ?_⟩⟩
  obtain ⟨r2, f⟩ := r1.fresh hp ru hz
  exact kk _ env1 h1 _ wd1 _ le1 r2 f
theorem cr_srtK (hu : X.A.units + 200 < cLine) {b : Bool} : CallRK X (.builtin "sorted") [Str.ofString "reverse"] (fun vs zs H Q => ∃ v, vs = [v] ∧ zs = [.bl b] ∧ rSrt X.K b v H Q) := by
  rintro pins s σ H vs zs us ws Q I r rz ⟨v, rfl, rfl, h⟩
  obtain ⟨u, rfl, ru⟩ := vals1 r
  obtain ⟨w1, rfl, e1⟩ := vals1 rz
  obtain rfl : w1 = Value.bool b := e1
  exact sorted_ok (.inr rfl) hu I ru h
end
end Pd

namespace Pd
open PySem PySem.Spec PyProof.Rows L2 LamX

section
variable {X : Cx} {T : List (Addr × Str)} {E : XK} {k : Nat}
theorem jf_sortedRev {e : Expr} {a : W D} {b : Bool} {p pos kpos bpos : Pos} {jb} (B : Bd X E k) (hm : X.mg "sorted" = none) (ha : JB T X E e a) (hg : Gl X "sorted" := by rfl)
    (he : backTo pos (starEach [e] X.env) = (false, eval e X.env) :: backTo pos (starEach [] X.env) := by rfl) (hpl : (backTo pos (starEach [e] X.env)).any (·.1) = false := by rfl)
    (hall : (backToKw pos (keywordEach [⟨some "reverse", .Constant (.bool b) jb bpos, kpos⟩] X.env)).all (·.1.isSome) = true := by rfl) (hnone : (backToKw pos (keywordEach [⟨some "reverse", .Constant (.bool b) jb bpos, kpos⟩] X.env)).any (·.1.isNone) = false := by rfl)
    (hks : (backToKw pos (keywordEach [⟨some "reverse", .Constant (.bool b) jb bpos, kpos⟩] X.env)).filterMap (·.1) = [Str.ofString "reverse"] := by rfl) (hs : starEach [e] X.env = (false, eval e X.env) :: starEach [] X.env := by rfl) :
    JF T X E (.Call (.Name "sorted" p) [e] [⟨some "reverse", .Constant (.bool b) jb bpos, kpos⟩] pos) (wSort b a) := by
  have hu : X.A.units + 200 < cLine := by have := B.room.un; omega
  refine peI (pe_callBK (cr_srtK (b := b) hu) hg hm (by decide +kernel) (pa_cons ha pa_nil hs) (pk_cons pe_bl pk_nil) (by decide) (by decide) he hpl hall hnone hks) fun σ H Q ⟨c, wd, env, P, Ex, rl, h, xo, kk⟩ => ?_
  refine ⟨c, wd, env, _, Ex, rl, h, xo, fun x env1 ⟨xs, e1, S, h1⟩ v wd1 H1 le1 r1 tp => ⟨v, rfl, rfl, T, wd1, x, xs, r1.good, tp, e1, S, fun p us hp ru hz => ?_⟩⟩
  obtain ⟨r2, f⟩ := r1.fresh hp ru hz
  exact kk _ env1 h1 _ wd1 _ le1 r2 f
def ownIs (env : PEnv) (i : Nat) (P : List D → Prop) : Prop := match gt env i with
  | some (.own xs) => P xs
  | _ => False
theorem ownIs_inv {env : PEnv} {i : Nat} {P : List D → Prop} (h : ownIs env i P) : ∃ xs, gt env i = some (.own xs) ∧ P xs := by
  unfold ownIs at h
  split at h
  · exact ⟨_, by assumption, h⟩
  · exact h.elim
def wAppend (i : Nat) (e : W D) : W D := fun env Q ex => ownIs env i fun _ => e env (fun y env1 => ownIs env1 i fun xs => xs.length < 1000000 ∧ Q .non (env1.set i (some (.own (xs ++ [y]))))) ex
def wPopAt (i : Nat) (e : W D) : W D := fun env Q ex => ownIs env i fun _ => e env (fun y env1 => ownIs env1 i fun xs => match y with
  | .int n => 0 ≤ n ∧ n < 1000000 ∧ ∃ z, xs[n.toNat]? = some z ∧ Q z (env1.set i (some (.own (xs.eraseIdx n.toNat))))
  | _ => False) ex
def wPop (i : Nat) : W D := fun env Q ex => ownIs env i fun xs => ∃ z, xs.getLast? = some z ∧ Q z (env.set i (some (.own xs.dropLast)))
def wExtend (i : Nat) (e : W D) : W D := fun env Q ex => ownIs env i fun _ => e env (fun y env1 => ownIs env1 i fun xs => match y with
  | .lst ys => xs.length + ys.length ≤ 1000000 ∧ Q .non (env1.set i (some (.own (xs ++ ys))))
  | _ => False) ex
section
variable {x : Str} {e : Expr} {p apos pos : Pos}
theorem je_append (i : Nat) {w : W D} (he : JE T X E e w) (hN : X.N[i]? = some x := by rfl) (hv : Vis X.env.scope x := by first | exact Or.inl rfl | exact Or.inr (Or.inl rfl) | exact Or.inr (Or.inr rfl)) (hd : (x == ("__debug__" : Str)) = false := by decide)
    (hcd : (x == ("__classdict__" : Str)) = false := by decide) (hbase : attributeBase (.Name x p) "append" X.env (eval (.Name x p) X.env) = eval (.Name x p) X.env := by rfl)
    (hfew : ((backTo pos (starEach [e] X.env)).all (fun x => !x.1) && (backToKw pos (keywordEach [] X.env)).all (fun x => x.1.isSome) && decide ([e].length + ([] : List Keyword).length + (if ([] : List Keyword).isEmpty then 0 else 1) < 30)) = true := by rfl)
    (hline : (apos.endLine == pos.line) = true := by rfl) (hs : starEach [e] X.env = (false, eval e X.env) :: starEach [] X.env := by rfl) (hpl : (backTo pos (starEach [] X.env)).any (·.1) = false := by rfl) : JE T X E (.Call (.Attribute (.Name x p) "append" apos) [e] [] pos) (wAppend i w) :=
  peI (pe_bm F.plainAttrs_list F.slot_list_append F.type_list_append mt_append (pe_var hN hv hd hcd) (pa_cons he pa_nil hs) hbase hfew hline hs hpl) fun σ H Q ⟨c, wd, env, P, Ex, rl, h, xo, kk⟩ => by
    obtain ⟨xs0, e0, h⟩ := ownIs_inv h
    obtain ⟨p0, vs0, z0, zh, _⟩ := rl.own i xs0 (gt_eq _ _ e0)
    refine ⟨.ref p0, z0, .inl ⟨rfl, vs0, .inl (.inl zh)⟩, c, wd, env, _, Ex, rl, h, xo, fun y env1 h1 u wd1 H1 le1 r1 rp1 => ?_⟩
    obtain ⟨xs, e1, hl, h1⟩ := ownIs_inv h1
    obtain ⟨p1, vs, z1, z2, z3, z4, z5, z6⟩ := r1.own i xs (gt_eq _ _ e1)
    rw [z0] at z1
    cases z1
    have hz : (vs ++ [u]).length ≤ sizeLine := by
      rw [List.length_append, z6.length]
      exact sz6 (Nat.succ_le_of_lt hl)
    refine ⟨_, vs, u, rfl, rfl, z2, ?_, kk _ _ h1 .non wd1 _ le1 (r1.mut (gt_eq _ _ e1) z0 (z6.append (.cons rp1 .nil)) hz) .non⟩
    rw [List.length_append] at hz
    exact hz
theorem je_popAt (i : Nat) {w : W D} (he : JE T X E e w) (hN : X.N[i]? = some x := by rfl) (hv : Vis X.env.scope x := by first | exact Or.inl rfl | exact Or.inr (Or.inl rfl) | exact Or.inr (Or.inr rfl)) (hd : (x == ("__debug__" : Str)) = false := by decide)
    (hcd : (x == ("__classdict__" : Str)) = false := by decide) (hbase : attributeBase (.Name x p) "pop" X.env (eval (.Name x p) X.env) = eval (.Name x p) X.env := by rfl)
    (hfew : ((backTo pos (starEach [e] X.env)).all (fun x => !x.1) && (backToKw pos (keywordEach [] X.env)).all (fun x => x.1.isSome) && decide ([e].length + ([] : List Keyword).length + (if ([] : List Keyword).isEmpty then 0 else 1) < 30)) = true := by rfl)
    (hline : (apos.endLine == pos.line) = true := by rfl) (hs : starEach [e] X.env = (false, eval e X.env) :: starEach [] X.env := by rfl) (hpl : (backTo pos (starEach [] X.env)).any (·.1) = false := by rfl) : JE T X E (.Call (.Attribute (.Name x p) "pop" apos) [e] [] pos) (wPopAt i w) :=
  peI (pe_bm F.plainAttrs_list F.slot_list_pop F.type_list_pop mt_popAt (pe_var hN hv hd hcd) (pa_cons he pa_nil hs) hbase hfew hline hs hpl) fun σ H Q ⟨c, wd, env, P, Ex, rl, h, xo, kk⟩ => by
    obtain ⟨xs0, e0, h⟩ := ownIs_inv h
    obtain ⟨p0, vs0, z0, zh, _⟩ := rl.own i xs0 (gt_eq _ _ e0)
    refine ⟨.ref p0, z0, .inl ⟨rfl, vs0, .inl (.inl zh)⟩, c, wd, env, _, Ex, rl, h, xo, fun y env1 h1 u wd1 H1 le1 r1 rp1 => ?_⟩
    obtain ⟨xs, e1, h2⟩ := ownIs_inv h1
    clear h1
    have h1 := h2
    clear h2
    obtain ⟨p1, vs, z1, z2, z3, z4, z5, z6⟩ := r1.own i xs (gt_eq _ _ e1)
    rw [z0] at z1
    cases z1
    split at h1
    · rename_i n
      obtain ⟨n0, n1, z, ez, h1⟩ := h1
      cases rp1
      obtain ⟨w', ew, rw'⟩ := z6.get ez
      have hlt : n.toNat < vs.length := (List.getElem?_eq_some_iff.mp ew).1
      refine ⟨_, vs, n, n.toNat, w', rfl, rfl, z2, by omega, by omega, ?_, ew, kk _ _ h1 w' wd1 _ le1 (r1.mut (gt_eq _ _ e1) z0 (z6.erase _) ?_) rw'⟩
      · exact seqIndex_of n0 (by omega)
      · exact Nat.le_trans (List.length_eraseIdx_le _ _) (r1.good.siz _ _ z2)
    · exact h1.elim
theorem je_pop (i : Nat) (hN : X.N[i]? = some x := by rfl) (hv : Vis X.env.scope x := by first | exact Or.inl rfl | exact Or.inr (Or.inl rfl) | exact Or.inr (Or.inr rfl)) (hd : (x == ("__debug__" : Str)) = false := by decide)
    (hcd : (x == ("__classdict__" : Str)) = false := by decide) (hbase : attributeBase (.Name x p) "pop" X.env (eval (.Name x p) X.env) = eval (.Name x p) X.env := by rfl) (hline : (apos.endLine == pos.line) = true := by rfl) : JE T X E (.Call (.Attribute (.Name x p) "pop" apos) [] [] pos) (wPop i) :=
  peI (pe_bm0 F.plainAttrs_list F.slot_list_pop F.type_list_pop mt_pop (pe_var hN hv hd hcd) hbase hline) fun σ H Q ⟨c, wd, env, P, Ex, rl, h, xo, kk⟩ => by
    obtain ⟨xs, e0, z, ez, h⟩ := ownIs_inv h
    obtain ⟨p0, vs, z0, z2, z3, z4, z5, z6⟩ := rl.own i xs (gt_eq _ _ e0)
    rw [List.getLast?_eq_getElem?] at ez
    obtain ⟨w', ew, rw'⟩ := z6.get ez
    rw [← z6.length] at ew
    refine ⟨.ref p0, z0, .inl ⟨rfl, vs, .inl (.inl z2)⟩, _, vs, w', rfl, rfl, z2, ew, kk _ _ h w' wd _ (Le.refl _) (rl.mut (gt_eq _ _ e0) z0 ?_ ?_) rw'⟩
    · rw [List.dropLast_eq_take, List.dropLast_eq_take, z6.length]
      exact z6.take _
    · rw [List.length_dropLast]
      exact Nat.le_trans (Nat.sub_le _ _) (rl.good.siz _ _ z2)
theorem je_extend (i : Nat) {w : W D} (he : JB T X E e w) (hN : X.N[i]? = some x := by rfl) (hv : Vis X.env.scope x := by first | exact Or.inl rfl | exact Or.inr (Or.inl rfl) | exact Or.inr (Or.inr rfl)) (hd : (x == ("__debug__" : Str)) = false := by decide)
    (hcd : (x == ("__classdict__" : Str)) = false := by decide) (hbase : attributeBase (.Name x p) "extend" X.env (eval (.Name x p) X.env) = eval (.Name x p) X.env := by rfl)
    (hfew : ((backTo pos (starEach [e] X.env)).all (fun x => !x.1) && (backToKw pos (keywordEach [] X.env)).all (fun x => x.1.isSome) && decide ([e].length + ([] : List Keyword).length + (if ([] : List Keyword).isEmpty then 0 else 1) < 30)) = true := by rfl)
    (hline : (apos.endLine == pos.line) = true := by rfl) (hs : starEach [e] X.env = (false, eval e X.env) :: starEach [] X.env := by rfl) (hpl : (backTo pos (starEach [] X.env)).any (·.1) = false := by rfl) : JE T X E (.Call (.Attribute (.Name x p) "extend" apos) [e] [] pos) (wExtend i w) :=
  peI (pe_bm F.plainAttrs_list F.slot_list_extend F.type_list_extend mt_extend (pe_var hN hv hd hcd) (pa_cons he pa_nil hs) hbase hfew hline hs hpl) fun σ H Q ⟨c, wd, env, P, Ex, rl, h, xo, kk⟩ => by
    obtain ⟨xs0, e0, h⟩ := ownIs_inv h
    obtain ⟨p0, vs0, z0, zh, _⟩ := rl.own i xs0 (gt_eq _ _ e0)
    refine ⟨.ref p0, z0, .inl ⟨rfl, vs0, .inl (.inl zh)⟩, c, wd, env, _, Ex, rl, h, xo, fun y env1 h1 u wd1 H1 le1 r1 rp1 => ?_⟩
    obtain ⟨xs, e1, h2⟩ := ownIs_inv h1
    clear h1
    have h1 := h2
    clear h2
    obtain ⟨p1, vs, z1, z2, z3, z4, z5, z6⟩ := r1.own i xs (gt_eq _ _ e1)
    rw [z0] at z1
    cases z1
    split at h1
    · rename_i ys
      obtain ⟨q, us, rfl, q1, q2⟩ := top_lst r1.good rp1
      have hz : vs.length + us.length ≤ sizeLine := by
        rw [z6.length, q2.length]
        exact sz6 h1.1
      refine ⟨_, _, vs, us, rfl, rfl, z2, q1, hz, kk _ _ h1.2 .non wd1 _ le1 (r1.mut (gt_eq _ _ e1) z0 (z6.append q2) ?_) .non⟩
      rw [List.length_append]
      exact hz
    · exact h1.elim
end
def sSetIx (i : Nat) (iw ew : W D) : WS := fun pe env => ew env (fun v env1 => ownIs env1 i fun _ => iw env1 (fun n env2 => ownIs env2 i fun xs => match n with
  | .int n => ∃ j, ixN xs.length n = some j ∧ pe.nx (env2.set i (some (.own (xs.set j v))))
  | _ => False) pe.ex) pe.ex
theorem js_setIx (i : Nat) {x : Str} {y e : Expr} {iw ew : W D} {p1 p2 pos : Pos} (hi : JE T X E y iw) (he : JE T X E e ew) (hN : X.N[i]? = some x := by rfl) (hv : Vis X.env.scope x := by first | exact Or.inl rfl | exact Or.inr (Or.inl rfl) | exact Or.inr (Or.inr rfl)) (hd : (x == ("__debug__" : Str)) = false := by decide)
    (hcd : (x == ("__classdict__" : Str)) = false := by decide) (hs : swapsWithSole [.Subscript (.Name x p1) y p2] e pos.line X.env = pure false := by rfl) (hw : swappedStores [.Subscript (.Name x p1) y p2] e X.env = pure none := by rfl)
    (h1 : (assignEach [.Subscript (.Name x p1) y p2] X.env).map (·.2) = [assign (.Subscript (.Name x p1) y p2) X.env] := by rfl)
    (hasg : ∀ v, assign (.Subscript (.Name x p1) y p2) X.env v = (do
      let ov ← holding [v] (eval (.Name x p1) X.env)
      let iv ← holding [v, ov] (eval y X.env)
      standAt p2
      holding [v, ov, iv] (setItem ov iv v)
      release [v, ov, iv] []) := by intro _; rfl) : JS T X E (.Assign [.Subscript (.Name x p1) y p2] e pos) (sSetIx i iw ew) :=
  psI (ps_asg he (pg_sub (pe_var hN hv hd hcd) hi set_list hasg) hs hw h1) fun D σ H ⟨c, wd, env, pe, rl, h, o⟩ => by
    refine ⟨c, wd, env, _, _, rl, h, o.ex, fun v env1 h1 u wd1 H1 le1 r1 rp1 => ?_⟩
    obtain ⟨xs0, e0, h1⟩ := ownIs_inv h1
    obtain ⟨p0, vs0, z0, zh, _⟩ := r1.own i xs0 (gt_eq _ _ e0)
    refine ⟨.ref p0, z0, c, wd1, env1, _, _, r1, h1, o.ex, fun n env2 h2 w wd2 H2 le2 r2 rp2 => ?_⟩
    obtain ⟨xs, e1, h3⟩ := ownIs_inv h2
    clear h2
    have h2 := h3
    clear h3
    obtain ⟨p1, vs, z1, z2, z3, z4, z5, z6⟩ := r2.own i xs (gt_eq _ _ e1)
    rw [z0] at z1
    cases z1
    split at h2
    · rename_i n
      cases rp2
      obtain ⟨j, ej, h2⟩ := h2
      refine ⟨_, vs, n, j, rfl, rfl, z2, by rw [z6.length]; exact ej, o.nx _ h2 _ wd2 _ (le1.trans le2) (r2.mut (gt_eq _ _ e1) z0 (z6.set j (Rep.mono le2 rp1)) ?_)⟩
      rw [List.length_set]
      exact r2.good.siz _ _ z2
    · exact h2.elim
end
end Pd

namespace Pd
open PySem PySem.Spec PyProof.Rows L2 LamX

theorem en_new {v : Value} {o : Obj} {G : Heap → Prop} (B : Begins v o G) :
    Meets (Builtin.«enumerate.__new__» ⟨[.type "enumerate", v], []⟩) (fun _ R s => G s.heap ∧
      R (.ok (.ret (.ref (s.heap.push o).objs.size))) { s with heap := (s.heap.push o).push { cls := .type "enumerate", data := .fields #[.none, .bool false, .ref s.heap.objs.size, rawInt 0, .none, .none] } }) :=
  .of_wp fun prog w A R s hh => by
    obtain ⟨hp, gs, dr, tk, os⟩ := s
    obtain ⟨h1, h⟩ := hh
    have hsub := sub_enumerate
    have go : ∀ {A' : Around} {E : Value → Shared → Prop} {Q : Value → Shared → Prop}, Q (.ref hp.objs.size) ⟨hp.push o, gs, dr, tk, os⟩ → wpAny (model prog w) A' (pyIter v) Q E ⟨hp, gs, dr, tk, os⟩ :=
      fun q => B.iter prog w _ _ ⟨hp, gs, dr, tk, os⟩ _ h1 q
    wp_walk using go
    refine wpAny_stack_any fun stk => wpAny_pure ?_
    split
    · rename_i c _ _ _ _ _
      cases (c == Value.type "enumerate")
      all_goals
        wp_walk using go
        exact ⟨_, rfl, h⟩
    · wp_walk using go
      exact ⟨_, rfl, h⟩
theorem en_call {prog : Program} {w : World} {A : Around} {E : Value → Shared → Prop} {s : Shared} {v : Value} {o : Obj} {G : Heap → Prop} {Q : Value → Shared → Prop} (B : Begins v o G) (h1 : G s.heap)
    (h : ∀ h', IsEnum h' (s.heap.objs.size + 1) s.heap.objs.size 0 .none → h'.get? s.heap.objs.size = some o → (∀ b u, s.heap.get? b = some u → h'.get? b = some u) → Q (.ref (s.heap.objs.size + 1)) { s with heap := h' }) :
    wpAny (model prog w) A (call (.type "enumerate") [v]) Q E s := by
  refine callType_new F.called_enumerate (by decide) (F.typeCall_enumerate_1 _) (F.newCall_enumerate_1 _) (fun obj => F.args_object_init_2 obj _) F.entry_enumerate_new (en_new B) ⟨h1, ?_⟩
  have sz : (s.heap.push o).objs.size = s.heap.objs.size + 1 := Heap.size_push ..
  show _ ∧ _
  rw [sz]
  have he : IsEnum ((s.heap.push o).push { cls := .type "enumerate", data := .fields #[.none, .bool false, .ref s.heap.objs.size, rawInt 0, .none, .none] }) (s.heap.objs.size + 1) s.heap.objs.size 0 .none := by
    have q := Heap.get?_push_size (s.heap.push o) (o := { cls := .type "enumerate", data := .fields #[.none, .bool false, .ref s.heap.objs.size, rawInt 0, .none, .none] }) rfl
    rw [sz] at q
    exact q
  exact ⟨⟨_, he, rfl⟩, h _ he (Heap.get?_push_of_some _ (Heap.get?_push_size _ B.free)) fun b u x => Heap.get?_push_of_some _ (Heap.get?_push_of_some _ x)⟩
def ItT (K : PySem.W.Frag) (a : Addr) : It :=
  ⟨fun i H => ∃ (xs : List V) (x : V), SqT K H a xs ∧ xs[i]? = some x, fun i H v H' => ∃ p x, v = .ref p ∧ H p = none ∧ H' = upd H p (.tup [.int (i : Nat), x]) ∧ ∀ xs, SqT K H a xs → xs[i]? = some x, fun i H => ∃ xs : List V, SqT K H a xs ∧ xs.length = i⟩
structure EnT (a e t : Addr) (i : Nat) (h : Heap) : Prop where
  num : ∃ old, IsEnum h e t (i : Int) old
  itr : h.IsTupleIter t a i
  et : e ≠ t
  at_ : a ≠ t
  ea : e ≠ a
theorem two_of {e t b : Addr} (h : b ∈ [e, t]) : b = e ∨ b = t := by simpa using h
theorem EnT.lt {a e t : Addr} {i : Nat} {h : Heap} (z : EnT a e t i h) : ∀ b ∈ [e, t], b < h.objs.size := by
  obtain ⟨_, n⟩ := z.num
  obtain ⟨_, m, _⟩ := z.itr
  intro b hb
  rcases two_of hb with rfl | rfl
  · exact Heap.lt_size n
  · exact Heap.lt_size m
theorem EnT.goes {X : Cx} {pins : List (Addr × Obj)} {σ : L2.St} {H : Hp} {s : Shared} {a e t : Addr} {i tk : Nat} {x : V} {u : Value} {h1 h2 : Heap} {xs : List V} (z : EnT a e t i s.heap) (I : Inv X pins σ H s) (free : ∀ b ∈ [e, t], FpOk X pins H b) (hq : SqT X.K H a xs) (hx : xs[i]? = some x) (ru : RelV x u)
    (pair : h1.get? s.heap.objs.size = some { cls := .type "tuple", data := .seq #[.int i tk, u] }) (old : ∀ b o, b ≠ e → b ≠ t → s.heap.get? b = some o → h1.get? b = some o) (next : h1.IsTupleIter t a (i + 1)) (num : IsEnum h2 e t ((i : Int) + 1) u) (but : Heap.SameBut e h1 h2) :
    ∃ y H', Inv X pins σ H' { s with heap := h2, toks := tk + 1 } ∧ RelV y (.ref s.heap.objs.size) ∧ (ItT X.K a).yld i H y H' ∧ EnT a e t (i + 1) h2 ∧ ∀ b ∈ [e, t], H' b = none := by
  have room : H s.heap.objs.size = none := I.hok.fresh (Nat.le_refl _)
  have low := z.lt
  have there : h2.get? s.heap.objs.size = some { cls := .type "tuple", data := .seq #[.int i tk, u] } := by
    rw [but.2 _ (Nat.ne_of_gt (low e (by simp)))]
    exact pair
  have obj : ObjOk X.prog X.w (upd H s.heap.objs.size (.tup [.int i, x])) h2 s.heap.objs.size (.tup [.int i, x]) := ⟨show 2 ≤ sizeLine by decide, _, .cons ⟨tk, rfl⟩ (.cons ru .nil), _, there, rfl, _, rfl⟩
  have kept : ∀ b o, b ∉ [e, t] → s.heap.get? b = some o → h2.get? b = some o := fun b o nb g => by
    have n1 : b ≠ e := fun y => nb (by simp [y])
    rw [but.2 b n1]
    exact old b o n1 (fun y => nb (by simp [y])) g
  refine ⟨.ref s.heap.objs.size, _, I.turnedNew kept free (Nat.le_refl _) obj, rfl, ⟨_, x, rfl, room, rfl, fun ys hy => ?_⟩, ?_, fun b hb => ?_⟩
  · rw [I.tuple_inj hy hq]
    exact hx
  · refine ⟨⟨u, ?_⟩, next.at fun o g => ?_, z.et, z.at_, z.ea⟩
    · rw [Int.natCast_succ]
      exact num
    · rw [but.2 t z.et.symm]
      exact g
  · rw [upd_ne (Nat.ne_of_lt (low b hb))]
    exact (free b hb).1
theorem turn_enT {P : Program} {w : World} {K : PySem.W.Frag} {elts : List Expr} {kk : Nat} {tpos : Pos} (a e t : Addr) : Turn P w K (.Tuple elts kk tpos) (ItT K a) [e, t] e (EnT a e t) where
  mem := List.mem_cons_self
  obj i h z b hb := by
    obtain ⟨old, n⟩ := z.num
    obtain ⟨o, m, _, dt⟩ := z.itr
    rcases two_of hb with rfl | rfl
    · exact ⟨_, n, by simp⟩
    · exact ⟨o, m, by simp [dt]⟩
  keep i h h' z k := by
    obtain ⟨old, n⟩ := z.num
    exact ⟨⟨old, k e (by simp) _ n⟩, z.itr.at (k t (by simp)), z.et, z.at_, z.ea⟩
  item := by
    rintro X rfl rfl rfl calm i pins s σ H E I free z ⟨xs, x, hq, hx⟩
    obtain ⟨its, rv, tup, _⟩ := I.tuple hq
    obtain ⟨u, hu, ru⟩ := rv.get hx
    obtain ⟨old, n⟩ := z.num
    have quiet : X.A.in1.handled = none := I.ok.hd calm
    have far : e ∉ [t, a] := by simp [z.et, z.ea]
    have more : i < its.toArray.size := by simpa using (List.getElem?_eq_some_iff.mp hu).1
    refine wpAny_pyNext_enum_itemD (Draws.tuple quiet t a z.at_ its.toArray) n ⟨z.itr, tup⟩ more z.et far fun v h1 tk hv out st pair _ keeps => ?_
    obtain rfl : v = u := by
      rw [← Array.getElem?_toList] at hv
      exact Option.some.inj (hv.symm.trans hu)
    exact ⟨_, rfl, wpAny_letOwnedTupleGo_enum (s := { s with heap := h1, toks := tk + 1 }) out fun h2 num but => z.goes I free hq hx ru pair keeps st.1 num but⟩
  done := by
    rintro X rfl rfl rfl calm i pins s σ H E I free z ⟨xs, hq, rfl⟩
    obtain ⟨its, rv, tup, _⟩ := I.tuple hq
    obtain ⟨old, n⟩ := z.num
    have quiet : X.A.in1.handled = none := I.ok.hd calm
    have all : its.toArray.size = xs.length := by simp [rv.length]
    obtain ⟨g0, g1, _, g3, g4, g5⟩ := free t (by simp)
    exact wpAny_pyNext_enum_endD (Draws.tuple quiet t a z.at_ its.toArray) n ⟨all ▸ z.itr, tup⟩ fun h1 but => ⟨rfl, I.turned (t' := s.toks) but g0 g1 g3 g4 g5⟩
  self A i s Q E z h := by
    obtain ⟨_, n⟩ := z.num
    exact wpAny_pyIter_enum n h
def iEnT (K : PySem.W.Frag) (ta : TA) : TI := fun σ H R => ta σ H fun vs H1 => ∃ a xs, vs = [.ref a] ∧ ((SqL K H1 a xs ∧ R (Ite K a) H1) ∨ (SqT K H1 a xs ∧ R (ItT K a) H1))
theorem pi_enT {X : Cx} {e : Expr} {ta : TA} {p pos tpos : Pos} {elts : List Expr} {kk : Nat} (hg : Gl X "enumerate") (hm : X.mg "enumerate" = none) (ha : PA X [e] ta) (hs : starEach [e] X.env = [(false, eval e X.env)] := by rfl) :
    PI X (.Tuple elts kk tpos) (.Call (.Name "enumerate" p) [e] [] pos) (iEnT X.K ta) := by
  constructor
  intro pins s σ H R I h
  refine Call_ ?_
  apply ld_blt I hg hm boot_enumerate
  apply PyProof.Rows.callWith_type1 _ hs rfl
  apply thn (ha.run pos pins s σ H _ I h)
  rintro us s1 ⟨_, H1, I1, r1, a, xs, rfl, q⟩
  obtain ⟨rfl⟩ : us = [.ref a] := Vals.ref1 r1
  have top : ∀ b ∈ [s1.heap.objs.size + 1, s1.heap.objs.size], FpOk X pins H1 b := fun b hb => by
    have le : s1.heap.objs.size ≤ b := by
      rcases two_of hb with rfl | rfl
      · exact Nat.le_succ _
      · exact Nat.le_refl _
    exact I1.fpOk le (I1.hok.fresh le)
  rcases q with ⟨hq, q⟩ | ⟨hq, q⟩
  · obtain ⟨its, _, lst, _⟩ := I1.list hq
    apply en_call (begins_list a its.toArray) lst.isList
    intro h1 num new keeps
    apply wpAny_pyIter_enum num
    exact ⟨_, _, _, _, H1, rfl, I1.kept (t' := s1.toks) keeps, turn_enum a _ _, ⟨⟨.none, num⟩, ⟨_, new, rfl, rfl⟩, Nat.succ_ne_self _⟩, top, q⟩
  · obtain ⟨its, _, tup, _⟩ := I1.tuple hq
    have low : a < s1.heap.objs.size := by
      obtain ⟨_, g, _⟩ := tup
      exact Heap.lt_size g
    apply en_call (begins_tuple a its.toArray) tup
    intro h1 num new keeps
    apply wpAny_pyIter_enum num
    exact ⟨_, _, _, _, H1, rfl, I1.kept (t' := s1.toks) keeps, turn_enT a _ _, ⟨⟨.none, num⟩, ⟨_, new, rfl, rfl⟩, Nat.succ_ne_self _, Nat.ne_of_lt low, Nat.ne_of_gt (Nat.lt_succ_of_lt low)⟩, top, q⟩
section
variable {X : Cx} {T : List (Addr × Str)} {E : XK} {k : Nat}
def enD (n : Nat) : List D → List D
  | [] => []
  | x :: xs => .tup [.int n, x] :: enD (n + 1) xs
theorem enD_len : ∀ (n : Nat) (xs : List D), (enD n xs).length = xs.length
  | _, [] => rfl
  | n, _ :: xs => congrArg (· + 1) (enD_len (n + 1) xs)
theorem enD_get : ∀ (n i : Nat) (xs : List D) (x : D), xs[i]? = some x → (enD n xs)[i]? = some (.tup [.int (n + i : Nat), x])
  | _, _, [], _, h => by simp at h
  | n, 0, y :: xs, x, h => by
    simp at h
    subst h
    rfl
  | n, i + 1, y :: xs, x, h => by
    have := enD_get (n + 1) i xs x (by simpa using h)
    rw [Nat.add_assoc, Nat.add_comm 1 i] at this
    simpa [enD] using this
def wEnum (a : W D) : W (List D) := a.bind fun x env Q _ => match dItems x with
  | some xs => Q (enD 0 xs) env
  | none => False
theorem yd_en {K : PySem.W.Frag} {wd : Wd} {xs : List D} {us : List V} {i : Nat} {H H' : Hp} {x v : V} {p : Addr} (ru : Reps K wd us xs) (ev : v = .ref p) (hp : H p = none) (eH : H' = upd H p (.tup [.int (i : Nat), x])) (e1 : us[i]? = some x) :
    ∃ d, (enD 0 xs)[i]? = some d ∧ YD K wd d H v H' := by
  obtain ⟨d1, f1, r1⟩ := ru.getV e1
  have := enD_get 0 i xs d1 f1
  rw [Nat.zero_add] at this
  exact ⟨_, this, .inr (.inl ⟨p, [.int (i : Nat), x], [.int (i : Nat), d1], ev, hp, eH, rfl, .cons (.int _) (.cons r1 .nil), by show 2 ≤ sizeLine; decide⟩)⟩
theorem ji_enum {e : Expr} {w : W D} {p pos tpos : Pos} {elts : List Expr} {kk : Nat} (hg : Gl X "enumerate") (hm : X.mg "enumerate" = none) (he : JE T X E e w) (hs : starEach [e] X.env = [(false, eval e X.env)] := by rfl) (hs2 : starEach [e] X.env = (false, eval e X.env) :: starEach [] X.env := by rfl) :
    JI T X E (.Tuple elts kk tpos) (.Call (.Name "enumerate" p) [e] [] pos) (wEnum w) :=
  piI (pi_enT hg hm (pa_cons he pa_nil hs2) hs) fun σ H R ⟨c, wd, env, P, Ex, r, h, xo, kk⟩ => ⟨c, wd, env, _, Ex, r, h, xo, fun x env1 h1 v wd1 H1 le1 r1 rp1 => by
    dsimp only at h1
    split at h1
    · rename_i xs ex
      cases x with
      | lst ys =>
        cases ex
        cases rp1 with
        | lst hs1 rs1 =>
          have q1 := sub_sqL (K := X.K) r1.good hs1
          refine ⟨_, _, rfl, .inl ⟨q1, kk _ env1 h1 _ wd1 H1 le1 r1 ?_ (by rw [enD_len, ← rs1.length]; exact (r1.good.ntb _ _ hs1).2)⟩⟩
          unfold WalkD
          rw [enD_len, ← rs1.length]
          refine ⟨fun i H hi z => ⟨_, _, .inl (.inl (z _ _ hs1)), List.getElem?_eq_getElem hi⟩, fun H z => ⟨_, .inl (.inl (z _ _ hs1)), Nat.le_refl _⟩, fun i H x H' hi z y => ?_⟩
          obtain ⟨p, a, e1, e2, e3, e4⟩ := y
          exact yd_en rs1 e1 e2 e3 (e4 _ (.inl (.inl (z _ _ hs1))))
      | tup ys =>
        cases ex
        cases rp1 with
        | tup hs1 rs1 =>
          have q1 := sub_sqT (K := X.K) r1.good hs1
          refine ⟨_, _, rfl, .inr ⟨q1, kk _ env1 h1 _ wd1 H1 le1 r1 ?_ (by rw [enD_len, ← rs1.length]; exact siz_sqT r1.good hs1)⟩⟩
          unfold WalkD
          rw [enD_len, ← rs1.length]
          refine ⟨fun i H hi z => ⟨_, _, sqT_sub X.K z hs1, List.getElem?_eq_getElem hi⟩, fun H z => ⟨_, sqT_sub X.K z hs1, rfl⟩, fun i H x H' hi z y => ?_⟩
          obtain ⟨p, a, e1, e2, e3, e4⟩ := y
          exact yd_en rs1 e1 e2 e3 (e4 _ (sqT_sub X.K z hs1))
      | _ => cases ex
    · exact h1.elim⟩
def bokB (j n : Int) : Prop := 0 ≤ n ∧ ((j = 0 ∧ n < 2 ^ 4000) ∨ (j = 1 ∧ n < 2 ^ 100) ∨ j = 2)
def wBoxGet (a b : W D) : W D := a.bind fun x => b.bind fun y env Q _ => match x, y with
  | .box _, .int j => 0 ≤ j ∧ j ≤ 2 ∧ ∀ n, bokB j n → Q (.int n) env
  | _, _ => False
theorem je_boxGet {a b : Expr} {wa wb : W D} {pos : Pos} (ha : JE T X E a wa) (hb : JE T X E b wb) (hs : PlainIx b) : JE T X E (.Subscript a b pos) (wBoxGet wa wb) := by
  refine peI (pe_ix ix_list ha hb hs) fun σ H Q ⟨c, wd, env, P, Ex, rl, h, xo, kk⟩ => ⟨c, wd, env, _, Ex, rl, h, xo, fun x env1 h1 v wd1 H1 le1 r1 rp1 => ⟨c, wd1, env1, _, Ex, r1, h1, xo, fun y env2 h2 u wd2 H2 le2 r2 rp2 => ?_⟩⟩
  dsimp only at h2
  split at h2
  · rename_i q j
    cases rp2
    cases rp1 with
    | box hb0 =>
      have hb := le2.b _ hb0
      obtain ⟨_, g, s, cc, e1, g0, g1, s0, s1, c0⟩ := r2.good.box _ hb
      obtain ⟨j0, j2, h2⟩ := h2
      have : j = 0 ∨ j = 1 ∨ j = 2 := by omega
      rcases this with rfl | rfl | rfl
      · exact ⟨_, _, _, .int g, rfl, rfl, .inl (.inl e1), rfl, kk _ env2 (h2 g ⟨g0, .inl ⟨rfl, g1⟩⟩) _ wd2 H2 (le1.trans le2) r2 (.int _)⟩
      · exact ⟨_, _, _, .int s, rfl, rfl, .inl (.inl e1), rfl, kk _ env2 (h2 s ⟨s0, .inr (.inl ⟨rfl, s1⟩)⟩) _ wd2 H2 (le1.trans le2) r2 (.int _)⟩
      · exact ⟨_, _, _, .int cc, rfl, rfl, .inl (.inl e1), rfl, kk _ env2 (h2 cc ⟨c0, .inr (.inr rfl)⟩) _ wd2 H2 (le1.trans le2) r2 (.int _)⟩
  · exact h2.elim
theorem Rel.boxSet {K : PySem.W.Frag} {c : Ctx} {wd : Wd} {env : PEnv} {σ : L2.St} {H : Hp} (r : Rel K T c wd env σ H) {b : Addr} (hb : b ∈ wd.B) {g s cc : Int} (h : 0 ≤ g ∧ g < 2 ^ 4000 ∧ 0 ≤ s ∧ s < 2 ^ 100 ∧ 0 ≤ cc) : Rel K T c wd env σ (upd H b (.lst [.int g, .int s, .int cc])) := by
  obtain ⟨m0, g', s', c', e, _⟩ := r.good.box b hb
  refine r.go (Ord.refl _ _) ⟨fun a o q => ?_, r.good.ntb, fun b' hb' => ?_, fun q hq => ?_, siz_upd r.good.siz (by show 3 ≤ sizeLine; decide)⟩ ⟨fun a o q n t => ?_, fun a q => ?_⟩
  · rw [upd_ne (fun z => by rw [z, m0] at q; cases q)]
    exact r.good.sub a o q
  · obtain ⟨z1, g2, s2, c2, z2, z3⟩ := r.good.box b' hb'
    by_cases hbb : b' = b
    · subst hbb
      exact ⟨z1, g, s, cc, upd_same, h⟩
    · exact ⟨z1, g2, s2, c2, by rw [upd_ne hbb]; exact z2, z3⟩
  · obtain ⟨ps, z1, z2, z3⟩ := r.good.tab q hq
    refine ⟨ps, ?_, z2, fun pos cv hc => ?_⟩
    · rw [upd_ne (fun z => by rw [z, e] at z1; cases z1)]
      exact z1
    · obtain ⟨a, y1, y2⟩ := z3 pos cv hc
      refine ⟨a, y1, ?_⟩
      rw [upd_ne (fun z => by rw [z, e] at y2; cases y2)]
      exact y2
  · rw [upd_ne (fun z => n (by rw [z]; exact hb))]
    exact q
  · by_cases ha : a = b
    · subst ha
      exact (q.no upd_same noTb_lst).elim
    · exact q.upd ha
def sBoxSet (i : Nat) (j : Int) (ew : W D) : WS := fun pe env => ew env (fun v env1 => match gt env1 i, v with
  | some (.d (.box _)), .int n => 0 ≤ j ∧ j ≤ 2 ∧ bokB j n ∧ pe.nx env1
  | _, _ => False) pe.ex
theorem js_boxSet (i : Nat) {j : Int} {x : Str} {e : Expr} {ew : W D} {p1 p2 pos py : Pos} {jj} (he : JE T X E e ew) (hN : X.N[i]? = some x := by rfl) (hv : Vis X.env.scope x := by first | exact Or.inl rfl | exact Or.inr (Or.inl rfl) | exact Or.inr (Or.inr rfl)) (hd : (x == ("__debug__" : Str)) = false := by decide)
    (hcd : (x == ("__classdict__" : Str)) = false := by decide) (hs : swapsWithSole [.Subscript (.Name x p1) (.Constant (.int j) jj py) p2] e pos.line X.env = pure false := by rfl) (hw : swappedStores [.Subscript (.Name x p1) (.Constant (.int j) jj py) p2] e X.env = pure none := by rfl)
    (h1 : (assignEach [.Subscript (.Name x p1) (.Constant (.int j) jj py) p2] X.env).map (·.2) = [assign (.Subscript (.Name x p1) (.Constant (.int j) jj py) p2) X.env] := by rfl)
    (hasg : ∀ v, assign (.Subscript (.Name x p1) (.Constant (.int j) jj py) p2) X.env v = (do
      let ov ← holding [v] (eval (.Name x p1) X.env)
      let iv ← holding [v, ov] (eval (.Constant (.int j) jj py) X.env)
      standAt p2
      holding [v, ov, iv] (setItem ov iv v)
      release [v, ov, iv] []) := by intro _; rfl) : JS T X E (.Assign [.Subscript (.Name x p1) (.Constant (.int j) jj py) p2] e pos) (sBoxSet i j ew) :=
  psI (ps_asg he (pg_sub (pe_var hN hv hd hcd) pe_int set_list hasg) hs hw h1) fun D σ H ⟨c, wd, env, pe, rl, h, o⟩ => by
    refine ⟨c, wd, env, _, _, rl, h, o.ex, fun v env1 hh u wd1 H1 le1 r1 rp1 => ?_⟩
    split at hh
    · rename_i q n eg
      cases rp1
      obtain ⟨v0, z0, z1⟩ := r1.dat i _ (gt_eq _ _ eg)
      cases z1 with
      | box hb =>
        obtain ⟨m0, g, s, cc, e1, g0, g1, s0, s1, c0⟩ := r1.good.box _ hb
        obtain ⟨j0, j2, bk, hnx⟩ := hh
        refine ⟨.ref q, z0, ?_⟩
        have : j = 0 ∨ j = 1 ∨ j = 2 := by omega
        rcases this with rfl | rfl | rfl
        · refine ⟨_, _, _, 0, rfl, rfl, e1, rfl, o.nx _ hnx _ wd1 _ le1 (r1.boxSet hb (g := n) (s := s) (cc := cc) ⟨bk.1, ?_, s0, s1, c0⟩)⟩
          rcases bk.2 with z | z | z <;> first | exact z.2 | omega
        · refine ⟨_, _, _, 1, rfl, rfl, e1, rfl, o.nx _ hnx _ wd1 _ le1 (r1.boxSet hb (g := g) (s := n) (cc := cc) ⟨g0, g1, bk.1, ?_, c0⟩)⟩
          rcases bk.2 with z | z | z
          · exact absurd z.1 (by decide)
          · exact z.2
          · exact absurd z (by decide)
        · exact ⟨_, _, _, 2, rfl, rfl, e1, rfl, o.nx _ hnx _ wd1 _ le1 (r1.boxSet hb (g := g) (s := s) (cc := n) ⟨g0, g1, s0, s1, bk.1⟩)⟩
    · exact hh.elim
def wBox (w : W (List D)) : W D := w.bind fun xs env Q _ => match xs with
  | [.int g, .int s, .int c] => (0 ≤ g ∧ g < 2 ^ 4000 ∧ 0 ≤ s ∧ s < 2 ^ 100 ∧ 0 ≤ c) ∧ ∀ p, Q (.box p) env
  | _ => False
theorem je_box {e : Expr} {w : W (List D)} (h : JF T X E e w) : JE T X E e (wBox w) :=
  peI h fun σ H Q ⟨c, wd, env, P, Ex, r, h, xo, k⟩ => ⟨c, wd, env, _, Ex, r, h, xo, fun xs env' p b wd' H' le r' rp => by
    dsimp only at p
    split at p
    · rename_i g s cc
      obtain ⟨q, vs, rfl, h1, h2, h3, h4, h5, h6, h7⟩ := rp
      obtain rfl : vs = [.int g, .int s, .int cc] := Reps.ints (ns := [g, s, cc]) h5
      have le' : Le wd' ⟨wd'.M, q :: wd'.B⟩ := ⟨Sub.refl _, fun a ha => List.mem_cons_of_mem _ ha⟩
      refine k _ env' (p.2 q) (.ref q) ⟨wd'.M, q :: wd'.B⟩ H' (le.trans le') ?_ (.box List.mem_cons_self)
      refine ⟨⟨r'.ord.le.trans le', r'.ord.fm, fun a ha => ?_⟩, ⟨r'.good.sub, r'.good.ntb, fun a ha => ?_, r'.good.tab, r'.good.siz⟩, r'.keep, r'.len, fun i d z => ?_, fun i ys z => ?_, r'.sep, fun qq hq => ?_, ⟨fun i p0 C fs z => ?_, r'.ext.ob1, fun i cs z qq hq => ?_, r'.ext.cnd, r'.ext.ce1, fun i lk kvs z => ?_, r'.ext.dc1⟩⟩
      · rcases List.mem_cons.mp ha with rfl | ha
        · exact .inr h4
        · exact r'.ord.fb a ha
      · rcases List.mem_cons.mp ha with rfl | ha
        · exact ⟨h2, g, s, cc, h1, p.1⟩
        · exact r'.good.box a ha
      · obtain ⟨v, y1, y2⟩ := r'.dat i d z
        exact ⟨v, y1, y2.mono le'⟩
      · obtain ⟨p2, us, y1, y2, y3, y4, y5, y6⟩ := r'.own i ys z
        refine ⟨p2, us, y1, y2, y3, fun hb => ?_, y5, y6.mono le'⟩
        rcases List.mem_cons.mp hb with rfl | hb
        · exact h6.o i ys z y1
        · exact y4 hb
      · obtain ⟨y1, y2, y3, y4⟩ := r'.pin qq hq
        refine ⟨y1, y2, fun hb => ?_, y4⟩
        rcases List.mem_cons.mp hb with z | hb
        · exact h7 qq hq z
        · exact y3 hb
      · obtain ⟨dx, vs, y1, y2, y3, y4, y5, y6⟩ := r'.ext.obj i p0 C fs z
        exact ⟨dx, vs, y1, y2, y3, y4, y5, y6.mono le'⟩
      · obtain ⟨⟨vs, y1, y2⟩, y3, y4, y5, y6⟩ := r'.ext.cel i cs z qq hq
        refine ⟨⟨vs, y1, y2.mono le'⟩, y3, fun hb => ?_, y5, y6⟩
        rcases List.mem_cons.mp hb with e | hb
        · exact h6.c i cs z qq hq e
        · exact y4 hb
      · obtain ⟨p0, vs, y1, y2, y3, y4, y5, y6⟩ := r'.ext.dct i lk kvs z
        exact ⟨p0, vs, y1, y2, y3, y4, y5, y6.mono le'⟩
    · exact p.elim⟩
end
end Pd

namespace Pd
open PySem PySem.Spec PyProof.Rows L2 LamX

section
variable {X : Cx} {T : List (Addr × Str)} {E : XK} {k : Nat}
theorem Bd.u (B : Bd X E k) : X.A.units + 200 < cLine := by have := B.room.un; omega
theorem Bd.u64 (B : Bd X E k) : X.A.units + 64 < cLine := by have := B.room.un; omega
theorem Bd.u65 (B : Bd X E k) : X.A.units + 65 < cLine := by have := B.room.un; omega
theorem Rel.frzF {K : PySem.W.Frag} {c : Ctx} {wd : Wd} {env : PEnv} {σ : L2.St} {H : Hp} {v : V} {xs : List D} (r' : Rel K T c wd env σ H) (rp : rF K c wd env σ H v xs) : ∃ wd', Le wd wd' ∧ Rel K T c wd' env σ H ∧ Rep K wd' v (.lst xs) := by
  obtain ⟨q, vs, rfl, h1, h2, h3, h4, h5, h6, h7⟩ := rp
  have le' : Le wd (wd.add q (.lst vs)) := Le.add h2
  refine ⟨wd.add q (.lst vs), le', ?_, .lst upd_same (h5.mono le')⟩
  have uq : ∀ {a : Addr} {o : HO}, (wd.add q (.lst vs)).M a = some o → (a = q ∧ o = .lst vs) ∨ wd.M a = some o := fun {a o} z => by
    by_cases ha : a = q
    · subst ha
      have z' : upd wd.M a (.lst vs) a = some o := z
      rw [upd_same] at z'
      cases z'
      exact .inl ⟨rfl, rfl⟩
    · have z' : upd wd.M q (.lst vs) a = some o := z
      rw [upd_ne ha] at z'
      exact .inr z'
  refine ⟨⟨r'.ord.le.trans le', fun a o z => ?_, r'.ord.fb⟩, ⟨fun a o z => ?_, fun a o z => ?_, fun b hb => ?_, r'.good.tab, r'.good.siz⟩, r'.keep, r'.len, fun i d z => ?_, fun i ys z => ?_, r'.sep, fun qq hq => ?_, r'.ext.addM h2 h6.c h1⟩
  · rcases uq z with ⟨rfl, rfl⟩ | z
    · exact .inr (.inl h4)
    · exact r'.ord.fm a o z
  · rcases uq z with ⟨rfl, rfl⟩ | z
    · exact h1
    · exact r'.good.sub a o z
  · rcases uq z with ⟨rfl, rfl⟩ | z
    · exact ⟨noTb_lst, r'.good.siz _ _ h1⟩
    · exact r'.good.ntb a o z
  · obtain ⟨z1, z2⟩ := r'.good.box b hb
    refine ⟨?_, z2⟩
    show upd wd.M q (.lst vs) b = none
    rw [upd_ne (show b ≠ q from fun z => h3 (z ▸ hb))]
    exact z1
  · obtain ⟨v, y1, y2⟩ := r'.dat i d z
    exact ⟨v, y1, y2.mono le'⟩
  · obtain ⟨p2, us, y1, y2, y3, y4, y5, y6⟩ := r'.own i ys z
    refine ⟨p2, us, y1, y2, ?_, y4, y5, y6.mono le'⟩
    show upd wd.M q (.lst vs) p2 = none
    rw [upd_ne (show p2 ≠ q from fun zz => h6.o i ys z (by rw [← zz]; exact y1))]
    exact y3
  · obtain ⟨y1, y2, y3, y4⟩ := r'.pin qq hq
    refine ⟨y1, ?_, y3, y4⟩
    show upd wd.M q (.lst vs) qq.1 = none
    rw [upd_ne (show qq.1 ≠ q from fun zz => h7 qq hq zz)]
    exact y2
theorem js_setCompD (i : Nat) {y : Str} {elt iter tg : Expr} {ifs : List Expr} {scope : Scope} (own : List (Str × Nat)) {pos spos py : Pos} {w : W (List D)} {g : WG} {wt : W Bool} {we : W D} (B : Bd X E k) (hi : JI T X E tg iter w) (ok : BlkOk X.N X.env.scope scope own)
    (hg : ∀ (s : Shared) (H : Hp) (C : Addr) (cl : List (Str × Addr)) (fp : List Addr), JG T (X.blk s H scope (compEnvC scope cl C X.env) fp) (own.map (·.2)) tg g)
    (ht : ∀ (s : Shared) (H : Hp) (C : Addr) (cl : List (Str × Addr)) (fp : List Addr), Bd (X.blk s H scope (compEnvC scope cl C X.env) fp) E0 k → JTs T (X.blk s H scope (compEnvC scope cl C X.env) fp) E0 ifs wt)
    (he : ∀ (s : Shared) (H : Hp) (C : Addr) (cl : List (Str × Addr)) (fp : List Addr), Bd (X.blk s H scope (compEnvC scope cl C X.env) fp) E0 k → JE T (X.blk s H scope (compEnvC scope cl C X.env) fp) E0 elt we)
    (hsw : swapsWith (.ListComp elt [⟨tg, iter, ifs, 0⟩] scope pos) (some (.Name y py)) spos.line X.env = pure true) (hy : X.N[i]? = some y := by rfl) (hyl : X.env.scope.names.lookup y = some .local := by rfl)
    (hs : ∀ x, foldedSetIterable iter X.env x = pure x := by intro _; rfl) : JS T X E (.Assign [.Name y py] (.ListComp elt [⟨tg, iter, ifs, 0⟩] scope pos) spos) (sSet i (wLst (wComp w g wt we (own.map (·.2))))) := by
  have Bb : ∀ (s : Shared) (H : Hp) (C : Addr) (cl : List (Str × Addr)) (fp : List Addr), Bd (X.blk s H scope (compEnvC scope cl C X.env) fp) E0 k := fun s H C cl fp => ⟨B.room, passL, PassesOwn.never, B.calm, B.nd⟩
  exact psI (ps_setLc B.calm B.nd hy hyl hsw hi ok hg (fun s H C cl fp => ht s H C cl fp (Bb s H C cl fp)) (fun s H C cl fp => he s H C cl fp (Bb s H C cl fp)) hs) fun D σ H ⟨c, wd, env, pe, r, h, o⟩ =>
    lc_lift ⟨c, wd, env, fun xs env' => pe.nx (env'.set i (some (.d (.lst xs)))), _, r, h, o.ex, fun xs env' h' v wd' H' le r' f => by
      obtain ⟨wd2, le2, r2, rp⟩ := r'.frzF f
      exact o.nx _ h' _ wd2 H' (le.trans le2) (r2.set rp)⟩
def rSl (K : PySem.W.Frag) (c : Ctx) (wd : Wd) (env : PEnv) (σ : L2.St) (H : Hp) : V → Sl → Prop
  | v, .d x => Rep K wd v x
  | v, .own xs => rF K c wd env σ H v xs
  | _, _ => False
def rMs (K : PySem.W.Frag) (c : Ctx) (wd : Wd) (env : PEnv) (σ : L2.St) (H : Hp) : List V → List Sl → Prop
  | [], [] => True
  | v :: vs, s :: ss => rSl K c wd env σ H v s ∧ rMs K c wd env σ H vs ss ∧ ∀ xs, s = .own xs → ∀ (j : Nat) (ys : List D), ss[j]? = some (.own ys) → vs[j]? ≠ some v
  | _, _ => False
abbrev JM (T : List (Addr × Str)) (X : Cx) (E : XK) (es : List Expr) (w : W (List Sl)) : Prop := PA X es (lift X.K T (rMs X.K) E w)
def mNil : W (List Sl) := .ret []
def mE (a : W D) (r : W (List Sl)) : W (List Sl) := a.bind fun x => r.bind fun xs => .ret (.d x :: xs)
def mF (a : W (List D)) (r : W (List Sl)) : W (List Sl) := a.bind fun x => r.bind fun xs => .ret (.own x :: xs)
theorem jm_nil : JM T X E [] mNil := paI pa_nil fun σ H Q ⟨c, wd, env, P, Ex, r, h, _, k⟩ => k [] env h [] wd H (Le.refl _) r trivial
theorem jm_e {e : Expr} {es : List Expr} {a : W D} {w : W (List Sl)} (ha : JE T X E e a) (hr : JM T X E es w) (hs : starEach (e :: es) X.env = (false, eval e X.env) :: starEach es X.env := by rfl) : JM T X E (e :: es) (mE a w) :=
  paI (pa_cons ha hr hs) fun σ H Q ⟨c, wd, env, P, Ex, r, h, xo, k⟩ =>
    ⟨c, wd, env, _, Ex, r, h, xo, fun x env1 h1 v wd1 H1 le1 r1 rp1 => ⟨c, wd1, env1, _, Ex, r1, h1, xo, fun xs env2 h2 vs wd2 H2 le2 r2 rp2 => k _ env2 h2 (v :: vs) wd2 H2 (le1.trans le2) r2 ⟨Rep.mono le2 rp1, rp2, fun _ z => nomatch z⟩⟩⟩
theorem Rel.pinF {K : PySem.W.Frag} {c : Ctx} {wd : Wd} {env : PEnv} {σ : L2.St} {H : Hp} {p : Addr} {us : List V} (r : Rel K T c wd env σ H) (h1 : H p = some (.lst us)) (h2 : wd.M p = none) (h3 : p ∉ wd.B) (h6 : NoOwn env σ p) :
    Rel K T { c with pn := (p, us) :: c.pn } wd env σ H := ⟨r.ord, r.good, r.keep, r.len, r.dat, r.own, r.sep, fun q hq => by
  rcases List.mem_cons.mp hq with rfl | hq
  · exact ⟨h1, h2, h3, h6⟩
  · exact r.pin q hq, ⟨r.ext.obj, r.ext.ob1, r.ext.cel, r.ext.cnd, r.ext.ce1, r.ext.dct, r.ext.dc1⟩⟩
theorem rF_ne {K : PySem.W.Frag} {c : Ctx} {wd : Wd} {env : PEnv} {σ : L2.St} {H : Hp} {p : Addr} {us : List V} {pn : List (Addr × List V)} : ∀ {vs : List V} {ss : List Sl}, rMs K { c with pn := (p, us) :: pn } wd env σ H vs ss →
    rMs K { c with pn := pn } wd env σ H vs ss ∧ ∀ (j : Nat) (ys : List D), ss[j]? = some (.own ys) → vs[j]? ≠ some (.ref p)
  | [], [], _ => ⟨trivial, fun j ys h => by simp at h⟩
  | [], _ :: _, h => h.elim
  | _ :: _, [], h => h.elim
  | v :: vs, s :: ss, ⟨h1, h2, h3⟩ => by
    obtain ⟨i1, i2⟩ := rF_ne h2
    have key : rSl K { c with pn := pn } wd env σ H v s ∧ ∀ ys, s = .own ys → v ≠ .ref p := by
      cases s with
      | d x => exact ⟨h1, fun _ z => nomatch z⟩
      | obj _ _ _ => exact h1.elim
      | cels _ => exact h1.elim
      | dct _ _ => exact h1.elim
      | own xs =>
        obtain ⟨q, ws, rfl, a1, a2, a3, a4, a5, a6, a7⟩ := h1
        exact ⟨⟨q, ws, rfl, a1, a2, a3, a4, a5, a6, fun z hz => a7 z (List.mem_cons_of_mem _ hz)⟩, fun ys _ z => by
          cases z
          exact a7 (p, us) List.mem_cons_self rfl⟩
    refine ⟨⟨key.1, i1, h3⟩, fun j ys hj => ?_⟩
    cases j with
    | zero =>
      have e : s = .own ys := by simpa using hj
      intro z
      exact key.2 ys e (by simpa using z)
    | succ j => 
      have := i2 j ys (by simpa using hj)
      simpa using this
theorem jm_f {e : Expr} {es : List Expr} {a : W (List D)} {w : W (List Sl)} (ha : JF T X E e a) (hr : JM T X E es w) (hs : starEach (e :: es) X.env = (false, eval e X.env) :: starEach es X.env := by rfl) : JM T X E (e :: es) (mF a w) :=
  paI (pa_cons ha hr hs) fun σ H Q ⟨c, wd, env, P, Ex, r, h, xo, k⟩ =>
    ⟨c, wd, env, _, Ex, r, h, xo, fun x env1 h1 v wd1 H1 le1 r1 rp1 => by
      obtain ⟨p, us, rfl, a1, a2, a3, a4, a5, a6, a7⟩ := rp1
      refine ⟨{ c with pn := (p, us) :: c.pn }, wd1, env1, _, Ex, r1.pinF a1 a2 a3 a6, h1, xo, fun xs env2 h2 vs wd2 H2 le2 r2 rp2 => ?_⟩
      obtain ⟨b1, b2, b3, b4⟩ := r2.pin (p, us) List.mem_cons_self
      obtain ⟨i1, i2⟩ := rF_ne rp2
      exact k _ env2 h2 (.ref p :: vs) wd2 H2 (le1.trans le2) r2.done ⟨⟨p, us, rfl, b1, b2, b3, a4, a5.mono le2, b4, a7⟩, i1, fun _ _ j ys hj => i2 j ys hj⟩⟩
theorem rMs.set1 {K : PySem.W.Frag} {c : Ctx} {wd : Wd} {env : PEnv} {σ : L2.St} {H : Hp} {v : V} {s : Sl} {vs : List V} {ss : List Sl} (r : Rel K T c wd env σ H) (i : Nat) (m : rMs K c wd env σ H (v :: vs) (s :: ss)) :
    Rel K T c wd (env.set i (some s)) (σ.set i (some v)) H ∧ rMs K c wd (env.set i (some s)) (σ.set i (some v)) H vs ss := by
  obtain ⟨h1, h2, h3⟩ := m
  refine ⟨?_, ?_⟩
  · cases s with
    | d x => exact r.set h1
    | own xs => exact r.ownF h1
    | obj _ _ _ => exact h1.elim
    | cels _ => exact h1.elim
    | dct _ _ => exact h1.elim
  · have hl : ∀ {l : List V} {t : List Sl}, rMs K c wd env σ H l t → (∀ (j : Nat) (ys : List D), t[j]? = some (.own ys) → ∀ xs, s = .own xs → l[j]? ≠ some v) → rMs K c wd (env.set i (some s)) (σ.set i (some v)) H l t := fun {l} => by
      induction l with
      | nil =>
        intro t h _
        cases t with
        | nil => exact trivial
        | cons _ _ => exact h.elim
      | cons u l ih =>
        intro t h hn
        cases t with
        | nil => exact h.elim
        | cons z t =>
          obtain ⟨g1, g2, g3⟩ := h
          refine ⟨?_, ih g2 (fun j ys hj xs e => by simpa using hn (j + 1) ys (by simpa using hj) xs e), g3⟩
          cases z with
          | d x => exact g1
          | obj _ _ _ => exact g1.elim
          | cels _ => exact g1.elim
          | dct _ _ => exact g1.elim
          | own ys =>
            obtain ⟨p, us, rfl, a1, a2, a3, a4, a5, a6, a7⟩ := g1
            refine ⟨p, us, rfl, a1, a2, a3, a4, a5, ⟨fun j zs e => ?_, a6.c.set_d fun cs z => ?_⟩, a7⟩
            rotate_left
            · subst z
              exact h1.elim
            rcases get_set e with ⟨rfl, e, hlt⟩ | ⟨ne, e⟩
            · rw [r.len] at hlt
              rw [List.getElem?_set_self hlt]
              intro q
              have q' : v = V.ref p := by cases q; rfl
              exact hn 0 ys rfl zs (Option.some.inj e) (by rw [q']; rfl)
            · rw [List.getElem?_set_ne ne]
              exact a6.o j zs e
    exact hl h2 fun j ys hj xs e => h3 xs e j ys hj
def sParM2 (i j : Nat) (m : W (List Sl)) : WS := fun pe env => m env (fun ss env' => match ss with
  | [a, b] => pe.nx ((env'.set i (some a)).set j (some b))
  | _ => False) pe.ex
theorem js_parM2 (i j : Nat) {x y : Str} {a b : Expr} {m : W (List Sl)} {px py pt pos : Pos} {kt k2 pt2} (B : Bd X E k) (hm : JM T X E [a, b] m)
    (hi : X.N[i]? = some x := by rfl) (hj : X.N[j]? = some y := by rfl) (hij : i ≠ j := by decide) (hx : X.env.scope.names.lookup x = some .local := by rfl) (hy : X.env.scope.names.lookup y = some .local := by rfl)
    (hw : swappedStores [.Tuple [.Name x px, .Name y py] kt pt] (.Tuple [a, b] k2 pt2) X.env = pure (some [x, y]) := by rfl)
    (hs : swapsWithSole [.Tuple [.Name x px, .Name y py] kt pt] (.Tuple [a, b] k2 pt2) pos.line X.env = pure false := by rfl) :
    JS T X E (.Assign [.Tuple [.Name x px, .Name y py] kt pt] (.Tuple [a, b] k2 pt2) pos) (sParM2 i j m) :=
  psI (ps_par B.calm B.nd hi hj hij hx hy hm hw hs) fun D σ H ⟨c, wd, env, pe, r, h, o⟩ =>
    ⟨c, wd, env, _, _, r, h, o.ex, fun ss env1 h1 vs wd1 H1 le1 r1 rp1 => by
      split at h1
      · rename_i s1 s2
        match vs, rp1 with
        | [u, v], rp1 =>
          obtain ⟨q1, m1⟩ := rMs.set1 r1 i rp1
          obtain ⟨q2, m2⟩ := rMs.set1 q1 j m1
          exact ⟨u, v, rfl, o.nx _ h1 _ wd1 H1 le1 q2⟩
      · exact h1.elim⟩
theorem Top.mono {K : PySem.W.Frag} {wd wd' : Wd} {H : Hp} {v : V} {d : D} (t : Top K wd H v d) (le : Le wd wd') : Top K wd' H v d := by
  rcases t with t | ⟨p, vs, xs, a, b, c, e⟩
  · exact .inl (t.mono le)
  · exact .inr ⟨p, vs, xs, a, b, c, e.mono le⟩
def wRev (a : W D) : W (List D) := a.bind fun x env Q _ => match x with
  | .lst xs => Q xs.reverse env
  | _ => False
theorem jf_rev {e : Expr} {a : W D} {kk : Nat} {p1 p2 p3 pos : Pos} (ha : JB T X E e a) : JF T X E (.Subscript e (.Slice none none (some (.UnaryOp .USub (.Constant (.int 1) kk p1) p2)) p3) pos) (wRev a) :=
  peI (pe_revL ha) fun σ H Q ⟨c, wd, env, P, Ex, rl, h, xo, kk⟩ => ⟨c, wd, env, _, Ex, rl, h, xo, fun x env1 h1 v wd1 H1 le1 r1 tp => by
    dsimp only at h1
    split at h1
    · rename_i xs
      obtain ⟨p, vs, rfl, q1, q2⟩ := top_lst r1.good tp
      refine ⟨p, vs, rfl, .inl (.inl q1), fun q hq => ?_⟩
      obtain ⟨r2, f⟩ := r1.fresh hq q2.reverse (by rw [List.length_reverse]; exact r1.good.siz _ _ q1)
      exact kk _ env1 h1 _ wd1 _ le1 r2 f
    · exact h1.elim⟩
theorem noTb_dT {xs : List (List Key × V)} : noTb (.dT xs) := fun _ h => nomatch h
theorem je_dict0 {pos : Pos} : JE T X E (.Dict [] [] pos) (W.ret (.dic [])) :=
  peI pe_dnewK fun σ H Q ⟨c, wd, env, P, Ex, rl, h, xo, kk⟩ => fun p hp => by
    have g : Grow wd H (wd.add p (.dK [])) (upd H p (.dK [])) := Grow.one hp noTb_dK trivial
    exact kk _ env h (.ref p) _ _ (Le.add (rl.good.mnone hp)) (rl.grow g) (.dic upd_same rfl .nil)
end
end Pd

namespace Pd
open PySem PySem.Spec PyProof.Rows L2 LamX
section
variable {P : Program} {w : World} {K : PySem.W.Frag} {mg : Str → Option Value} {base : Heap} {T : List (Addr × Str)}
def HasD (K : PySem.W.Frag) (mg : Str → Option Value) (x : Str) (st : Stmt) : Prop := ∃ f fd, FunD K x x (defArgs st) (defBody st) (defScope st) [] [] f fd ∧ mg x = some (.ref f)
theorem def_okX {x : Str} {st : Stmt} {N ps : List Str} {k : Nat} {F : Fn} (D : HasD K mg x st) (S : FnScope N ps (defScope st)) (bn : ∀ f fd, FunD K x x (defArgs st) (defBody st) (defScope st) [] [] f fd → Binds K fd ps [])
    (len : ∀ ds Q Ex, F ds Q Ex → ds.length = ps.length)
    (hd : ∀ (cdv : Value) (A : Around) (outer : List Env) (s : Shared) (H : Hp) (E : XK) (f : Addr), Bd (cxOf (L2.CX P w) P w K mg base N x (defScope st) f cdv A outer s H E) E k → Takes (cxOf (L2.CX P w) P w K mg base N x (defScope st) f cdv A outer s H E) (fun cls d _ H => E cls d H) →
      ∃ wb, JSs T (cxOf (L2.CX P w) P w K mg base N x (defScope st) f cdv A outer s H E) E (defBody st) wb ∧ ∀ ds Q Ex, F ds Q Ex → wb (dEnds Q Ex) (startE N ds)) : DefOk P w K mg base T x (k + 1) ps F := by
  obtain ⟨f, fd, D, gm⟩ := D
  exact def_ok D S gm (bn f fd D) len fun cdv A outer s H E B tk => hd cdv A outer s H E f B tk
end
def iAdd : D → D → Option D := fun x y => match x, y with | .int a, .int b => some (.int (a + b)) | _, _ => none
def iSub : D → D → Option D := fun x y => match x, y with | .int a, .int b => some (.int (a - b)) | _, _ => none
end Pd

namespace Pd
open PySem PySem.Spec PyProof.Rows L2 LamX
theorem reads_ints {h : Heap} : ∀ {ns : List Int} {its : List Value}, Vals (ns.map V.int) its → ReadsAll h its (ns.map PyData.int) []
  | [], _, r => by cases r; exact .nil
  | n :: ns, _, r => by
    cases r with
    | cons a b =>
      obtain ⟨t, rfl⟩ := a
      exact .cons (.int n t) (reads_ints b)
section
variable {X : Cx} {T : List (Addr × Str)} {E : XK} {k : Nat}
section
variable {x : Str} {e o : Expr} {p apos pos : Pos}
end
end
end Pd

namespace Pd
open PySem PySem.Spec PyProof.Rows L2 LamX
abbrev K1 := (D → PEnv → Prop)
def xBin (f : D → D → PEnv → K1 → Prop) (a b : W D) : W D := a.bind fun x => b.bind fun y env Q _ => f x y env Q
def x1 (f : D → PEnv → K1 → Prop) (a : W D) : W D := a.bind fun x env Q _ => f x env Q
def Asks2 (f : D → D → PEnv → K1 → Prop) (g : D → D → Option D) : Prop := ∀ x y env Q, f x y env Q → ∃ z, g x y = some z ∧ Q z env
def Asks1 (f : D → PEnv → K1 → Prop) (g : D → Option D) : Prop := ∀ x env Q, f x env Q → ∃ z, g x = some z ∧ Q z env
def fAdd : D → D → PEnv → K1 → Prop := fun x y env Q => match x, y with
  | .int a, .int b => Q (.int (a + b)) env
  | .tup xs, .tup ys => xs.length + ys.length ≤ 1000000 ∧ Q (.tup (xs ++ ys)) env
  | .lst xs, .lst ys => xs.length + ys.length ≤ 1000000 ∧ Q (.lst (xs ++ ys)) env
  | .str x, .str y => x.length + y.length ≤ 1000000 ∧ Q (.str (x ++ y)) env
  | _, _ => False
def fMul : D → D → PEnv → K1 → Prop := fun x y env Q => match x, y with
  | .int a, .int b => ((a.natAbs < 2 ^ 64 ∨ b.natAbs < 2 ^ 64) ∨ a.natAbs.log2 + b.natAbs.log2 < 1000000) ∧ Q (.int (a * b)) env
  | .tup xs, .int k => (xs ≠ [] ∧ -1000 ≤ k ∧ k ≤ 1000 ∧ xs.length ≤ 1000) ∧ Q (.tup (List.replicate k.toNat xs).flatten) env
  | .lst xs, .int k => (-1000000 ≤ k ∧ k ≤ 1000000 ∧ xs.length * k.toNat ≤ 1000000) ∧ Q (.lst (List.replicate k.toNat xs).flatten) env
  | _, _ => False
def fDiv : D → D → PEnv → K1 → Prop := fun x y env Q => match x, y with
  | .int a, .int b => (0 < b ∧ b.natAbs.log2 < 9000) ∧ Q (.int (a / b)) env
  | _, _ => False
def fMod : D → D → PEnv → K1 → Prop := fun x y env Q => match x, y with
  | .int a, .int b => 0 < b ∧ Q (.int (a % b)) env
  | _, _ => False
def fPow : D → D → PEnv → K1 → Prop := fun x y env Q => match x, y with
  | .int a, .int b => (0 ≤ b ∧ (Builtin.Int.intBits a : Int) * b ≤ 2 ^ 27) ∧ Q (.int (a ^ b.toNat)) env
  | _, _ => False
def fEq : D → D → PEnv → K1 → Prop := fun x y env Q => (plain 60 x && plain 60 y) = true ∧ Q (.bl (eqb x y)) env
def fNe : D → D → PEnv → K1 → Prop := fun x y env Q => (plain 60 x && plain 60 y) = true ∧ Q (.bl (!eqb x y)) env
def fIn : D → D → PEnv → K1 → Prop := fun x y env Q => match y with
  | .lst ys => (plain 59 x && ys.all (plain 59)) = true ∧ Q (.bl (ys.any fun y => eqb y x)) env
  | .tup ys => (plain 59 x && ys.all (plain 59)) = true ∧ Q (.bl (ys.any fun y => eqb y x)) env
  | _ => False
def fIdx : D → D → PEnv → K1 → Prop := fun x y env Q => ∃ z, dIdx x y = some z ∧ Q z env
def fSum : D → PEnv → K1 → Prop := fun x env Q => ∃ ns : List Int, dItems x = some (ns.map D.int) ∧ Q (.int ns.sum) env
def fAll : D → PEnv → K1 → Prop := fun x env Q => match x with
  | .lst xs => ∃ bs : List Bool, xs = bs.map D.bl ∧ Q (.bl (bs.all id)) env
  | _ => False
def fAny : D → PEnv → K1 → Prop := fun x env Q => match x with
  | .lst xs => ∃ bs : List Bool, xs = bs.map D.bl ∧ Q (.bl (bs.any id)) env
  | _ => False
theorem as_add : Asks2 fAdd dAdd := fun x y env Q h => by
  unfold fAdd at h
  split at h
  · exact ⟨_, rfl, h⟩
  · exact ⟨_, if_pos h.1, h.2⟩
  · exact ⟨_, if_pos h.1, h.2⟩
  · exact ⟨_, if_pos h.1, h.2⟩
  · exact h.elim
theorem as_mul : Asks2 fMul dMul := fun x y env Q h => by
  unfold fMul at h
  split at h
  · exact ⟨_, if_pos h.1, h.2⟩
  · exact ⟨_, if_pos h.1, h.2⟩
  · exact ⟨_, if_pos h.1, h.2⟩
  · exact h.elim
theorem as_div : Asks2 fDiv dDiv := fun x y env Q h => by
  unfold fDiv at h
  split at h
  · exact ⟨_, if_pos h.1, h.2⟩
  · exact h.elim
theorem as_mod : Asks2 fMod dMod := fun x y env Q h => by
  unfold fMod at h
  split at h
  · exact ⟨_, if_pos h.1, h.2⟩
  · exact h.elim
theorem as_pow : Asks2 fPow dPow := fun x y env Q h => by
  unfold fPow at h
  split at h
  · exact ⟨_, if_pos h.1, h.2⟩
  · exact h.elim
theorem as_eq : Asks2 fEq dEq := fun x y env Q h => ⟨_, if_pos h.1, h.2⟩
theorem as_ne : Asks2 fNe dNe := fun x y env Q h => ⟨_, if_pos h.1, h.2⟩
theorem as_in : Asks2 fIn dIn := fun x y env Q h => by
  unfold fIn at h
  split at h
  · exact ⟨_, if_pos h.1, h.2⟩
  · exact ⟨_, if_pos h.1, h.2⟩
  · exact h.elim
theorem as_idx : Asks2 fIdx dIdx := fun x y env Q h => h
theorem as_sum : Asks1 fSum dSum := fun x env Q ⟨ns, e, q⟩ => by
  cases x with
  | lst xs =>
    cases e
    exact ⟨_, by show (asInts _).map _ = _; rw [asInts_map]; rfl, q⟩
  | tup xs =>
    cases e
    exact ⟨_, by show (asInts _).map _ = _; rw [asInts_map]; rfl, q⟩
  | _ => cases e
section
variable {X : Cx} {T : List (Addr × Str)} {E : XK} {k : Nat} {e x y : Expr} {a b : W D} {pos : Pos}
theorem lift_x2 {K : PySem.W.Frag} {r : R2} {f : D → D → PEnv → K1 → Prop} {g : D → D → Option D} {a b : W D} {σ : L2.St} {H : Hp} {Q : VK} (hf : Asks2 f g)
    (ho : ∀ (x y z : D), g x y = some z → ∀ (T : List (Addr × Str)) (wd : Wd) (H : Hp) (v u : V) (Q : VK), Good T wd H → Rep K wd v x → Rep K wd u y → Del K wd H z Q → r v u H Q)
    (h : lift K T (rE K) E (xBin f a b) σ H Q) : tOp r (lift K T (rE K) E a) (lift K T (rE K) E b) σ H Q := by
  obtain ⟨c, wd, env, P, Ex, rl, h, xo, k⟩ := h
  refine ⟨c, wd, env, _, Ex, rl, h, xo, fun x env1 h1 v wd1 H1 le1 r1 rp1 => ⟨c, wd1, env1, _, Ex, r1, h1, xo, fun y env2 h2 u wd2 H2 le2 r2 rp2 => ?_⟩⟩
  obtain ⟨z, e, hz⟩ := hf _ _ _ _ h2
  exact ho x y z e T wd2 H2 v u Q r2.good (Rep.mono le2 rp1) rp2 fun w wd3 H3 g3 rp3 => k z env2 hz w wd3 H3 ((le1.trans le2).trans (g3.le r2.good)) (r2.grow g3) rp3
theorem jx_bin {op : Operator} {f : D → D → PEnv → K1 → Prop} {g : D → D → Option D} (hf : Asks2 f g) (ho : OpD X (binaryOp op) g) (ha : JE T X E x a) (hb : JE T X E y b) : JE T X E (.BinOp x op y pos) (xBin f a b) := by
  obtain ⟨r, hr, hq⟩ := ho.ex
  exact peI (pe_op hr ha hb) fun σ H Q h => lift_x2 hf hq h
theorem jx_cmp {op : CmpOp} {f : D → D → PEnv → K1 → Prop} {g : D → D → Option D} (hf : Asks2 f g) (ho : OpD X (compareOp op) g) (ha : JE T X E x a) (hb : JE T X E y b) (hm : behindInMarks op y = false) : JE T X E (.Compare x [op] [y] pos) (xBin f a b) := by
  obtain ⟨r, hr, hq⟩ := ho.ex
  exact peI (pe_cmpR hr ha hb hm) fun σ H Q h => lift_x2 hf hq h
theorem jtx_cmp {op : CmpOp} {f : D → D → PEnv → K1 → Prop} {g : D → D → Option D} (hf : Asks2 f g) (ho : OpD X (compareOp op) g) (ha : JE T X E x a) (hb : JE T X E y b) (hm : behindInMarks op y = false) : JT T X E (.Compare x [op] [y] pos) (wTest (xBin f a b)) := by
  obtain ⟨r, hr, hq⟩ := ho.ex
  refine ptI (pt_cmpR hr ha hb hm) fun σ H Q ⟨c, wd, env, P, Ex, rl, h, xo, k⟩ => lift_x2 hf hq ⟨c, wd, env, _, Ex, rl, h, xo, fun x1 env1 h1 v wd1 H1 le1 r1 rp1 => ?_⟩
  dsimp only at h1
  split at h1
  · cases rp1
    exact ⟨_, rfl, k _ env1 h1 _ wd1 H1 le1 r1 rfl⟩
  · exact h1.elim
theorem as_all : Asks1 fAll dAll := fun x env Q h => by
  unfold fAll at h
  split at h
  · obtain ⟨bs, rfl, q⟩ := h
    exact ⟨_, by show (asBools _).map _ = _; rw [asBools_map]; rfl, q⟩
  · exact h.elim
theorem as_any : Asks1 fAny dAny := fun x env Q h => by
  unfold fAny at h
  split at h
  · obtain ⟨bs, rfl, q⟩ := h
    exact ⟨_, by show (asBools _).map _ = _; rw [asBools_map]; rfl, q⟩
  · exact h.elim
theorem jx_b1 {f : D → PEnv → K1 → Prop} {g : D → Option D} {id : String} {nm : Str} {p : Pos} (hf : Asks1 f g) (hc : CallB X (.builtin id) g) (hm : X.mg nm = none) (hv : bootBuiltins nm = some (.builtin id)) (ha : JB T X E e a) (hg : Gl X nm := by rfl) (hn : nm ≠ "__name__" := by decide) (hdb : (nm == ("__debug__" : Str)) = false := by decide)
    (hs : starEach [e] X.env = (false, eval e X.env) :: starEach [] X.env := by rfl) (hpl : (backTo pos (starEach [] X.env)).any (·.1) = false := by rfl) : JE T X E (.Call (.Name nm p) [e] [] pos) (x1 f a) := by
  obtain ⟨r, h1, h2⟩ := hc.ex
  refine peI (pe_callB h1 hg hm hv (pa_cons ha pa_nil hs) hn hdb hs hpl) fun σ H Q ⟨c, wd, env, P, Ex, rl, h, xo, k⟩ => ?_
  refine ⟨c, wd, env, _, Ex, rl, h, xo, fun x env1 h1 v wd1 H1 le1 r1 tp => ?_⟩
  obtain ⟨z, e1, h3⟩ := hf _ _ _ h1
  exact h2 x z e1 T wd1 H1 v Q r1.good tp fun w wd2 H2 g2 rp => k z env1 h3 w wd2 H2 (le1.trans (g2.le r1.good)) (r1.grow g2) rp
theorem jx_ix (ha : JE T X E x a) (hb : JE T X E y b) (hs : PlainIx y) : JE T X E (.Subscript x y pos) (xBin fIdx a b) := by
  refine peI (pe_ix (r := fun x y H Q => rIxL X.K x y H Q ∨ rIxT X.K x y H Q) (ix_list.or ix_tup) ha hb hs) fun σ H Q h => lift_x2 as_idx (fun x y z e T wd H v u Q g rx ry d => ?_) h
  cases rx with
  | tup hs rs =>
    cases ry with
    | int i =>
      obtain ⟨w, e1, r1⟩ := atI_reps rs e
      exact .inr ⟨_, _, _, w, rfl, rfl, sub_sqT g hs, e1, d.now r1⟩
    | _ => cases e
  | lst hs rs =>
    cases ry with
    | int i =>
      obtain ⟨w, e1, r1⟩ := atI_reps rs e
      exact .inl ⟨_, _, _, w, rfl, rfl, sub_sqL g hs, e1, d.now r1⟩
    | _ => cases e
  | scr hs =>
    cases ry with
    | int i =>
      obtain ⟨n, e1, e2⟩ := Option.map_eq_some_iff.mp e
      subst e2
      refine .inl ⟨_, _, _, .int n, rfl, rfl, sub_sqS g hs, ?_, d.now (.int n)⟩
      unfold atI at e1 ⊢
      rw [List.length_map]
      obtain ⟨j, q, e3⟩ := Option.bind_eq_some_iff.mp e1
      rw [q]
      show (List.map V.int _)[j]? = some (V.int n)
      rw [List.getElem?_map, e3]
      rfl
    | _ => cases e
  | _ => cases e
end
end Pd

namespace Pd
open PySem PySem.Spec PyProof.Rows L2 LamX
def celsOf : Option Sl → List (Addr × List D)
  | some (.cels cs) => cs
  | _ => []
def celSet (cs : List (Addr × List D)) (p : Addr) (ys : List D) : List (Addr × List D) := cs.map fun q => if q.1 = p then (p, ys) else q
theorem celSet_fst (cs : List (Addr × List D)) (p : Addr) (ys : List D) : (celSet cs p ys).map (·.1) = cs.map (·.1) := by
  unfold celSet
  rw [List.map_map]
  refine List.map_congr_left fun q _ => ?_
  show (if q.1 = p then (p, ys) else q).1 = q.1
  split
  · rename_i h
    exact h.symm
  · rfl
theorem celSet_mem {cs : List (Addr × List D)} {p : Addr} {ys : List D} {q : Addr × List D} (h : q ∈ celSet cs p ys) : (q = (p, ys) ∧ ∃ xs, (p, xs) ∈ cs) ∨ (q.1 ≠ p ∧ q ∈ cs) := by
  unfold celSet at h
  obtain ⟨r, hr, e⟩ := List.mem_map.mp h
  by_cases z : r.1 = p
  · rw [if_pos z] at e
    exact .inl ⟨e.symm, r.2, by rw [← z]; exact hr⟩
  · rw [if_neg z] at e
    subst e
    exact .inr ⟨z, hr⟩
theorem celsOf_mem {env : PEnv} {j : Nat} {q : Addr × List D} (h : q ∈ celsOf (gt env j)) : ∃ cs, env[j]? = some (some (.cels cs)) ∧ gt env j = some (.cels cs) ∧ q ∈ cs := by
  cases e : gt env j with
  | none => rw [e] at h; cases h
  | some s =>
    cases s with
    | cels cs =>
      rw [e] at h
      exact ⟨cs, gt_eq _ _ e, rfl, h⟩
    | _ => rw [e] at h; cases h
section
variable {X : Cx} {T : List (Addr × Str)} {E : XK} {k : Nat}
theorem Rel.newCel {K : PySem.W.Frag} {c : Ctx} {wd : Wd} {env : PEnv} {σ : L2.St} {H : Hp} {j : Nat} {p : Addr} {vs : List V} {xs : List D} (r : Rel K T c wd env σ H) (h1 : H p = some (.lst vs)) (h2 : wd.M p = none) (h3 : p ∉ wd.B) (h4 : Nt c.H p) (h5 : Reps K wd vs xs) (h6 : NoOwn env σ p) (h7 : ∀ q ∈ c.pn, q.1 ≠ p) :
    Rel K T c wd (env.set j (some (.cels (celsOf (gt env j) ++ [(p, xs)])))) σ H := by
  have ownS : ∀ {i : Nat} {ys : List D}, (env.set j (some (.cels (celsOf (gt env j) ++ [(p, xs)]))))[i]? = some (some (.own ys)) → env[i]? = some (some (.own ys)) := fun {i ys} e => by
    rcases get_set e with ⟨rfl, e, _⟩ | ⟨_, e⟩
    · cases e
    · exact e
  have celS : ∀ {i : Nat} {cs : List (Addr × List D)}, (env.set j (some (.cels (celsOf (gt env j) ++ [(p, xs)]))))[i]? = some (some (.cels cs)) → (i = j ∧ cs = celsOf (gt env j) ++ [(p, xs)]) ∨ (i ≠ j ∧ env[i]? = some (some (.cels cs))) := fun {i cs} e => by
    rcases get_set e with ⟨rfl, e, _⟩ | ⟨n, e⟩
    · cases e
      exact .inl ⟨rfl, rfl⟩
    · exact .inr ⟨fun z => n z.symm, e⟩
  refine ⟨r.ord, r.good, r.keep, by rw [List.length_set]; exact r.len, fun i x e => ?_, fun i ys e => r.own i ys (ownS e), fun i l as bs q e1 e2 e3 e4 => r.sep i l as bs q (ownS e1) (ownS e2) e3 e4, fun q hq => ?_, ⟨fun i p0 C fs e => ?_, fun i l p1 p2 C C' fs gs e1 e2 => ?_, fun i cs e q hq => ?_, fun i cs e => ?_, fun i l cs ds e1 e2 n q hq q' hq' => ?_, fun i lk kvs e => ?_, fun i l lk lk' ks ls p1 e1 e2 e3 e4 => ?_⟩⟩
  · rcases get_set e with ⟨rfl, e, _⟩ | ⟨_, e⟩
    · cases e
    · exact r.dat i x e
  · obtain ⟨z1, z2, z3, z4⟩ := r.pin q hq
    refine ⟨z1, z2, z3, fun i ys e => z4.o i ys (ownS e), fun i cs e q' hq' => ?_⟩
    rcases celS e with ⟨rfl, rfl⟩ | ⟨_, e⟩
    · rcases List.mem_append.mp hq' with m | m
      · obtain ⟨cs, e1, _, m⟩ := celsOf_mem m
        exact z4.c i cs e1 q' m
      · rw [List.mem_singleton] at m
        subst m
        exact fun z => h7 q hq z.symm
    · exact z4.c i cs e q' hq'
  · rcases get_set e with ⟨rfl, e, _⟩ | ⟨_, e⟩
    · cases e
    · exact r.ext.obj i p0 C fs e
  · rcases get_set e1 with ⟨rfl, e, _⟩ | ⟨_, e1⟩
    · cases e
    · rcases get_set e2 with ⟨rfl, e, _⟩ | ⟨_, e2⟩
      · cases e
      · exact r.ext.ob1 i l p1 p2 C C' fs gs e1 e2
  · rcases celS e with ⟨rfl, rfl⟩ | ⟨_, e⟩
    · rcases List.mem_append.mp hq with m | m
      · obtain ⟨cs, e1, _, m⟩ := celsOf_mem m
        obtain ⟨z1, z2, z3, z4, z5⟩ := r.ext.cel i cs e1 q m
        exact ⟨z1, z2, z3, z4, fun l ys e => z5 l ys (ownS e)⟩
      · rw [List.mem_singleton] at m
        subst m
        exact ⟨⟨vs, h1, h5⟩, h2, h3, h4, fun l ys e => h6.o l ys (ownS e)⟩
    · obtain ⟨z1, z2, z3, z4, z5⟩ := r.ext.cel i cs e q hq
      exact ⟨z1, z2, z3, z4, fun l ys e => z5 l ys (ownS e)⟩
  · rcases celS e with ⟨rfl, rfl⟩ | ⟨_, e⟩
    · rw [List.map_append]
      refine List.nodup_append.mpr ⟨?_, by simp, fun a ha b hb => ?_⟩
      · cases e : gt env i with
        | none => exact List.nodup_nil
        | some s =>
          cases s with
          | cels cs => exact r.ext.cnd i cs (gt_eq _ _ e)
          | _ => exact List.nodup_nil
      · obtain ⟨q, hq, rfl⟩ := List.mem_map.mp ha
        obtain ⟨cs, e1, _, m⟩ := celsOf_mem hq
        have : b = p := by simpa using hb
        rw [this]
        exact h6.c i cs e1 q m
    · exact r.ext.cnd i cs e
  · rcases celS e1 with ⟨rfl, rfl⟩ | ⟨n1, f1⟩
    · rcases celS e2 with ⟨rfl, rfl⟩ | ⟨n2, e2⟩
      · exact absurd rfl n
      · rcases List.mem_append.mp hq with m | m
        · obtain ⟨cs, e3, _, m⟩ := celsOf_mem m
          exact r.ext.ce1 i l cs ds e3 e2 n q m q' hq'
        · rw [List.mem_singleton] at m
          subst m
          exact fun z => h6.c l ds e2 q' hq' z.symm
    · rcases celS e2 with ⟨rfl, rfl⟩ | ⟨n2, e2⟩
      · rcases List.mem_append.mp hq' with m | m
        · obtain ⟨cs', e3, _, m⟩ := celsOf_mem m
          exact r.ext.ce1 i l cs cs' f1 e3 n q hq q' m
        · rw [List.mem_singleton] at m
          subst m
          exact h6.c i cs f1 q hq
      · exact r.ext.ce1 i l cs ds f1 e2 n q hq q' hq'
  · rcases get_set e with ⟨rfl, e, _⟩ | ⟨_, e⟩
    · cases e
    · exact r.ext.dct i lk kvs e
  · rcases get_set e1 with ⟨rfl, e, _⟩ | ⟨_, e1⟩
    · cases e
    · rcases get_set e2 with ⟨rfl, e, _⟩ | ⟨_, e2⟩
      · cases e
      · exact r.ext.dc1 i l lk lk' ks ls p1 e1 e2 e3 e4
def wCell (j : Nat) (w : W (List D)) : W D := fun env Q ex => w env (fun xs env' => ∀ p, p ∉ (celsOf (gt env' j)).map (·.1) → Q (.raw (.ref p)) (env'.set j (some (.cels (celsOf (gt env' j) ++ [(p, xs)]))))) ex
theorem je_cell (j : Nat) {e : Expr} {w : W (List D)} (h : JF T X E e w) : JE T X E e (wCell j w) :=
  peI h fun σ H Q ⟨c, wd, env, P, Ex, r, h, xo, k⟩ => ⟨c, wd, env, _, Ex, r, h, xo, fun xs env' p b wd' H' le r' rp => by
    obtain ⟨q, vs, rfl, h1, h2, h3, h4, h5, h6, h7⟩ := rp
    refine k _ _ (p q fun hm => ?_) (.ref q) wd' H' le (r'.newCel h1 h2 h3 h4 h5 h6 h7) (.raw _)
    obtain ⟨a, ha, ea⟩ := List.mem_map.mp hm
    obtain ⟨cs, e1, _, m⟩ := celsOf_mem ha
    exact h6.c j cs e1 a m ea⟩
def celIs (env : PEnv) (j : Nat) (x : D) (P : Addr → List D → Prop) : Prop := match x with
  | .raw (.ref p) => ∃ xs, (p, xs) ∈ celsOf (gt env j) ∧ P p xs
  | _ => False
theorem celIs_inv {env : PEnv} {j : Nat} {x : D} {P : Addr → List D → Prop} (h : celIs env j x P) : ∃ p xs, x = .raw (.ref p) ∧ (p, xs) ∈ celsOf (gt env j) ∧ P p xs := by
  unfold celIs at h
  split at h
  · obtain ⟨xs, h1, h2⟩ := h
    exact ⟨_, xs, rfl, h1, h2⟩
  · exact h.elim
theorem Rel.celAt {K : PySem.W.Frag} {c : Ctx} {wd : Wd} {env : PEnv} {σ : L2.St} {H : Hp} {j : Nat} {p : Addr} {xs : List D} (r : Rel K T c wd env σ H) (h : (p, xs) ∈ celsOf (gt env j)) : ∃ vs, H p = some (.lst vs) ∧ Reps K wd vs xs := by
  obtain ⟨cs, e1, _, m⟩ := celsOf_mem h
  exact (r.ext.cel j cs e1 _ m).1
theorem Rel.mutCel {K : PySem.W.Frag} {c : Ctx} {wd : Wd} {env : PEnv} {σ : L2.St} {H : Hp} {j : Nat} {p : Addr} {xs ys : List D} {us : List V} (r : Rel K T c wd env σ H) (hm : (p, xs) ∈ celsOf (gt env j)) (hr : Reps K wd us ys) (hz : us.length ≤ sizeLine) :
    Rel K T c wd (env.set j (some (.cels (celSet (celsOf (gt env j)) p ys)))) σ (upd H p (.lst us)) := by
  obtain ⟨cs, ej, eg, m⟩ := celsOf_mem hm
  have eo : celsOf (gt env j) = cs := by rw [eg]; rfl
  rw [eo]
  obtain ⟨⟨vs, h1, h2⟩, h3, h4, h5, h6⟩ := r.ext.cel j cs ej _ m
  have h1 : H p = some (.lst vs) := h1
  have h3 : wd.M p = none := h3
  have h4 : p ∉ wd.B := h4
  have h5 : Nt c.H p := h5
  have h6 : ∀ (i : Nat) (ys : List D), env[i]? = some (some (Sl.own ys)) → σ[i]? ≠ some (some (V.ref p)) := h6
  have ownS : ∀ {i : Nat} {zs : List D}, (env.set j (some (.cels (celSet cs p ys))))[i]? = some (some (.own zs)) → env[i]? = some (some (.own zs)) := fun {i zs} e => by
    rcases get_set e with ⟨rfl, e, _⟩ | ⟨_, e⟩
    · cases e
    · exact e
  have celS : ∀ {i : Nat} {ds : List (Addr × List D)}, (env.set j (some (.cels (celSet cs p ys))))[i]? = some (some (.cels ds)) → (i = j ∧ ds = celSet cs p ys) ∨ (i ≠ j ∧ env[i]? = some (some (.cels ds))) := fun {i ds} e => by
    rcases get_set e with ⟨rfl, e, _⟩ | ⟨n, e⟩
    · cases e
      exact .inl ⟨rfl, rfl⟩
    · exact .inr ⟨fun z => n z.symm, e⟩
  have memF : ∀ {q : Addr × List D}, q ∈ celSet cs p ys → ∃ q', q' ∈ cs ∧ q'.1 = q.1 := fun {q} h => by
    rcases celSet_mem h with ⟨rfl, xs', m'⟩ | ⟨_, m'⟩
    · exact ⟨_, m', rfl⟩
    · exact ⟨q, m', rfl⟩
  refine ⟨r.ord, ⟨fun a o q => ?_, r.good.ntb, fun b hb => ?_, fun q hq => ?_, siz_upd r.good.siz hz⟩, ⟨fun a o q n t => ?_, fun a q => ?_⟩, by rw [List.length_set]; exact r.len, fun i x e => ?_, fun i zs e => ?_, fun i l as bs q e1 e2 e3 e4 => r.sep i l as bs q (ownS e1) (ownS e2) e3 e4, fun q hq => ?_, ⟨fun i p0 C fs e => ?_, fun i l p1 p2 C C' fs gs e1 e2 => ?_, fun i ds e q hq => ?_, fun i ds e => ?_, fun i l ds es e1 e2 n q hq q' hq' => ?_, fun i lk kvs e => ?_, fun i l lk lk' ks ls p1 e1 e2 e3 e4 => ?_⟩⟩
  · rw [upd_ne (fun z => by rw [z, h3] at q; cases q)]
    exact r.good.sub a o q
  · obtain ⟨z1, g, s, c', z2, z3⟩ := r.good.box b hb
    exact ⟨z1, g, s, c', by rw [upd_ne (show b ≠ p from fun z => h4 (z ▸ hb))]; exact z2, z3⟩
  · obtain ⟨ps, z1, z2, z3⟩ := r.good.tab q hq
    refine ⟨ps, ?_, z2, fun pos cv hc => ?_⟩
    · rw [upd_ne (fun z => by rw [z, h1] at z1; cases z1)]
      exact z1
    · obtain ⟨a, y1, y2⟩ := z3 pos cv hc
      refine ⟨a, y1, ?_⟩
      rw [upd_ne (fun z => by rw [z, h1] at y2; cases y2)]
      exact y2
  · rw [upd_ne (show a ≠ p from fun z => h5.no (by rw [← z]; exact q) t)]
    exact r.keep.st a o q n t
  · by_cases ha : a = p
    · subst ha
      exact h5
    · exact r.keep.dm a (q.upd ha)
  · rcases get_set e with ⟨rfl, e, _⟩ | ⟨_, e⟩
    · cases e
    · exact r.dat i x e
  · obtain ⟨a, ws, z1, z2, z3⟩ := r.own i zs (ownS e)
    exact ⟨a, ws, z1, by rw [upd_ne (show a ≠ p from fun z => h6 i zs (ownS e) (by rw [← z]; exact z1))]; exact z2, z3⟩
  · obtain ⟨z1, z2, z3, z4⟩ := r.pin q hq
    refine ⟨by rw [upd_ne (show q.1 ≠ p from fun z => z4.c j cs ej _ m z.symm)]; exact z1, z2, z3, fun i zs e => z4.o i zs (ownS e), fun i ds e q' hq' => ?_⟩
    rcases celS e with ⟨rfl, rfl⟩ | ⟨_, e⟩
    · obtain ⟨q2, m2, e2⟩ := memF hq'
      rw [← e2]
      exact z4.c i cs ej q2 m2
    · exact z4.c i ds e q' hq'
  · rcases get_set e with ⟨rfl, e, _⟩ | ⟨_, e⟩
    · cases e
    · obtain ⟨dx, ws, z1, z2, z3⟩ := r.ext.obj i p0 C fs e
      exact ⟨dx, ws, z1, by rw [upd_ne (fun z => by rw [z, h1] at z2; cases z2)]; exact z2, z3⟩
  · rcases get_set e1 with ⟨rfl, e, _⟩ | ⟨_, e1⟩
    · cases e
    · rcases get_set e2 with ⟨rfl, e, _⟩ | ⟨_, e2⟩
      · cases e
      · exact r.ext.ob1 i l p1 p2 C C' fs gs e1 e2
  · rcases celS e with ⟨rfl, rfl⟩ | ⟨ni, e⟩
    · rcases celSet_mem hq with ⟨rfl, _⟩ | ⟨ne, m'⟩
      · exact ⟨⟨us, upd_same, hr⟩, h3, h4, h5, fun l zs e => h6 l zs (ownS e)⟩
      · obtain ⟨⟨ws, z1, z2⟩, z3, z4, z5, z6⟩ := r.ext.cel i cs ej q m'
        exact ⟨⟨ws, by rw [upd_ne ne]; exact z1, z2⟩, z3, z4, z5, fun l zs e => z6 l zs (ownS e)⟩
    · obtain ⟨⟨ws, z1, z2⟩, z3, z4, z5, z6⟩ := r.ext.cel i ds e q hq
      exact ⟨⟨ws, by rw [upd_ne (r.ext.ce1 i j ds cs e ej ni q hq _ m)]; exact z1, z2⟩, z3, z4, z5, fun l zs e => z6 l zs (ownS e)⟩
  · rcases celS e with ⟨rfl, rfl⟩ | ⟨_, e⟩
    · rw [celSet_fst]
      exact r.ext.cnd i cs ej
    · exact r.ext.cnd i ds e
  · rcases celS e1 with ⟨rfl, rfl⟩ | ⟨n1, f1⟩
    · rcases celS e2 with ⟨rfl, rfl⟩ | ⟨n2, e2⟩
      · exact absurd rfl n
      · obtain ⟨q2, m2, e3⟩ := memF hq
        rw [← e3]
        exact r.ext.ce1 i l cs es ej e2 n q2 m2 q' hq'
    · rcases celS e2 with ⟨rfl, rfl⟩ | ⟨n2, e2⟩
      · obtain ⟨q2, m2, e3⟩ := memF hq'
        rw [← e3]
        exact r.ext.ce1 i l ds cs f1 ej n q hq q2 m2
      · exact r.ext.ce1 i l ds es f1 e2 n q hq q' hq'
  · rcases get_set e with ⟨rfl, e, _⟩ | ⟨_, e⟩
    · cases e
    · obtain ⟨p0, ws, z1, z2, z3⟩ := r.ext.dct i lk kvs e
      exact ⟨p0, ws, z1, by rw [upd_ne (fun z => by rw [z, h1] at z2; exact lk_lst z2)]; exact z2, z3⟩
  · rcases get_set e1 with ⟨rfl, e, _⟩ | ⟨_, e1⟩
    · cases e
    · rcases get_set e2 with ⟨rfl, e, _⟩ | ⟨_, e2⟩
      · cases e
      · exact r.ext.dc1 i l lk lk' ks ls p1 e1 e2 e3 e4
section
variable {o e : Expr} {apos pos : Pos}
end
end
end Pd

namespace Pd
open PySem PySem.Spec PyProof.Rows L2 LamX
section
variable {K : PySem.W.Frag} {T : List (Addr × Str)} {c : Ctx} {wd wd' : Wd} {env : PEnv} {σ : L2.St} {H H' : Hp}
theorem Good.nb (g : Good T wd H) {p : Addr} (h : H p = none) : p ∉ wd.B := fun z => by
  obtain ⟨_, _, _, _, e, _⟩ := g.box p z
  rw [h] at e
  cases e
theorem Good.new (g : Good T wd H) {p : Addr} {o : HO} (h : H p = none) (z : Sized o) : Good T wd (upd H p o) := by
  refine ⟨fun a u e => ?_, g.ntb, fun b hb => ?_, g.tab.ext fun b u e => ?_, siz_upd g.siz z⟩
  · have := g.sub a u e
    rw [upd_ne (ne_of_none this h)]
    exact this
  · obtain ⟨h1, gg, s, c', h2, h3⟩ := g.box b hb
    exact ⟨h1, gg, s, c', by rw [upd_ne (ne_of_none h2 h)]; exact h2, h3⟩
  · rw [upd_ne (ne_of_none e h)]
    exact e
theorem Good.put (g : Good T wd H) {p : Addr} {o : HO} (h : H p = some o) (t : noTb o) (z : Sized o) (hb : p ∉ wd.B) : Good T (wd.add p o) H := by
  have uq : ∀ {a : Addr} {u : HO}, (wd.add p o).M a = some u → (a = p ∧ u = o) ∨ wd.M a = some u := fun {a u} e => by
    by_cases ha : a = p
    · subst ha
      have e' : upd wd.M a o a = some u := e
      rw [upd_same] at e'
      cases e'
      exact .inl ⟨rfl, rfl⟩
    · have e' : upd wd.M p o a = some u := e
      rw [upd_ne ha] at e'
      exact .inr e'
  refine ⟨fun a u e => ?_, fun a u e => ?_, fun b hb' => ?_, g.tab, g.siz⟩
  · rcases uq e with ⟨rfl, rfl⟩ | e
    · exact h
    · exact g.sub a u e
  · rcases uq e with ⟨rfl, rfl⟩ | e
    · exact ⟨t, z⟩
    · exact g.ntb a u e
  · obtain ⟨z1, z2⟩ := g.box b hb'
    refine ⟨?_, z2⟩
    show upd wd.M p o b = none
    rw [upd_ne (show b ≠ p from fun z => hb (z ▸ hb'))]
    exact z1
theorem Ord.put (o : Ord wd wd' H) {p : Addr} {u : HO} (h : Nt H p) (hm : wd'.M p = none) : Ord wd (wd'.add p u) H := by
  refine ⟨o.le.trans (Le.add hm), fun a v e => ?_, o.fb⟩
  by_cases ha : a = p
  · subst ha
    exact .inr (.inl h)
  · have e' : upd wd'.M p u a = some v := e
    rw [upd_ne ha] at e'
    exact o.fm a v e'
theorem lookup_reps : ∀ {vs : List (Str × V)} {ds : List (Str × D)} {f : Str} {d : D}, vs.map (·.1) = ds.map (·.1) → Reps K wd (vs.map (·.2)) (ds.map (·.2)) → ds.lookup f = some d → ∃ v, vs.lookup f = some v ∧ Rep K wd v d
  | [], [], f, d, _, _, h => by simp at h
  | [], _ :: _, _, _, e, _, _ => by simp at e
  | _ :: _, [], _, _, e, _, _ => by simp at e
  | (a, v) :: vs, (b, x) :: ds, f, d, e, r, h => by
    have e1 : a = b := by simpa using congrArg List.head? e
    have e2 : vs.map (·.1) = ds.map (·.1) := by simpa using congrArg List.tail e
    subst e1
    cases r with
    | cons r1 r2 =>
      by_cases hf : (f == a) = true
      · have h' : some x = some d := by
          have : List.lookup f ((a, x) :: ds) = some x := by simp only [List.lookup, hf]
          rw [this] at h
          exact h
        cases h'
        exact ⟨v, by simp only [List.lookup, hf], r1⟩
      · have hf' : (f == a) = false := by simpa using hf
        have h' : ds.lookup f = some d := by
          have : List.lookup f ((a, x) :: ds) = ds.lookup f := by simp only [List.lookup, hf']
          rw [this] at h
          exact h
        obtain ⟨w, w1, w2⟩ := lookup_reps e2 r2 h'
        exact ⟨w, by simp only [List.lookup, hf']; exact w1, w2⟩
end
section
variable {X : Cx} {T : List (Addr × Str)} {E : XK} {k : Nat}
end
abbrev IFn := List D → (List (Str × D) → Prop) → (Xc → Prop) → Prop
def specI (K : PySem.W.Frag) (T : List (Addr × Str)) (C : Str) (F : IFn) : Sp := fun vs H Q E => ∃ (x dx : Addr) (us : List V) (c : Ctx) (wd : Wd) (ds : List D) (P : List (Str × D) → Prop) (Ex : Xc → Prop),
  vs = .ref x :: us ∧ c.pn = [] ∧ Ord c.wd wd c.H ∧ Good T wd H ∧ Keep c.wd c.H H ∧ H x = some (.ins (He.ga K C) dx []) ∧ wd.M x = none ∧ Nt c.H x ∧ Reps K wd us ds ∧ F ds P Ex ∧ XOk K T c E Ex ∧
  ∀ fs, P fs → ∀ (ws : List (Str × V)) (dx' : Addr) (wd' : Wd) (H' : Hp), Ord c.wd wd' c.H → Good T wd' H' → Keep c.wd c.H H' → H' x = some (.ins (He.ga K C) dx' ws) → wd'.M x = none → ws.map (·.1) = fs.map (·.1) → Reps K wd' (ws.map (·.2)) (fs.map (·.2)) → Q .non H'
section
variable {P : Program} {w : World} {K : PySem.W.Frag} {mg : Str → Option Value} {base : Heap} {T : List (Addr × Str)}
structure InitOk (P : Program) (w : World) (K : PySem.W.Frag) (mg : Str → Option Value) (base : Heap) (T : List (Addr × Str)) (C : Str) (k : Nat) (F : IFn) : Prop where
  ex : ∃ f, Mk K (He.ga K C) f ∧ mg C = some (.ref (He.ga K C)) ∧ FnR P w K mg base (L2.CX P w) k f (specI K T C F)
theorem InitOk.up {C : Str} {j k : Nat} {F : IFn} (d : InitOk P w K mg base T C j F) (h : j ≤ k) : InitOk P w K mg base T C k F := by
  obtain ⟨f, a, b, e⟩ := d.ex
  exact ⟨f, a, b, e.mono h⟩
end
section
variable {X : Cx} {T : List (Addr × Str)} {E : XK} {k : Nat}
end
section
variable {P : Program} {w : World} {K : PySem.W.Frag} {mg : Str → Option Value} {base : Heap} {T : List (Addr × Str)}
end
end Pd

namespace Pd
open PySem PySem.Spec PyProof.Rows L2 LamX
theorem wipe_at {σ : L2.St} {i : Nat} : ∀ {vs : List Nat}, i ∈ vs → (wipe σ vs)[i]? = (σ[i]?).map fun _ => none
  | [], h => by cases h
  | v :: vs, h => by
    show ((wipe σ vs).set v none)[i]? = _
    by_cases e : v = i
    · subst e
      by_cases hl : v < σ.length
      · rw [List.getElem?_set_self (by rw [wipe_length]; exact hl), List.getElem?_eq_getElem hl]
        rfl
      · rw [List.getElem?_eq_none (by rw [List.length_set, wipe_length]; omega), List.getElem?_eq_none (by omega)]
        rfl
    · rw [List.getElem?_set_ne e]
      rcases List.mem_cons.mp h with z | z
      · exact absurd z.symm e
      · exact wipe_at z
theorem wipe_wipe {σ : L2.St} {us vs : List Nat} (h : ∀ i ∈ us, i ∈ vs) : wipe (wipe σ us) vs = wipe σ vs := by
  refine List.ext_getElem? fun i => ?_
  by_cases hv : i ∈ vs
  · rw [wipe_at hv, wipe_at hv]
    by_cases hu : i ∈ us
    · rw [wipe_at hu]
      cases σ[i]? <;> rfl
    · rw [wipe_get hu]
  · rw [wipe_get hv, wipe_get hv, wipe_get fun z => hv (h i z)]
def cmpW (g : WG) (t : W Bool) (e : W D) (vs : List Nat) (Q : List D → PEnv → Prop) : List D → PEnv → List D → Prop
  | [], env, acc => Q acc (wipeE env vs)
  | x :: xs, env, acc => g x (wipeE env vs) fun env1 => t env1 (fun b env2 => br b (e env2 (fun y env3 => acc.length < 1000000 ∧ cmpW g t e vs Q xs env3 (acc ++ [y])) (fun _ => False)) (cmpW g t e vs Q xs env2 acc)) (fun _ => False)
def comp2W (g : WG) (t : W Bool) (it : W (List D)) (g1 : WG) (t1 : W Bool) (e : W D) (vs vs1 : List Nat) (Q : List D → PEnv → Prop) : List D → PEnv → List D → Prop
  | [], env, acc => Q acc env
  | x :: xs, env, acc => g x (wipeE env vs) fun env1 => t env1 (fun b env2 => br b (it env2 (fun ys env3 => cmpW g1 t1 e vs1 (fun acc' env' => comp2W g t it g1 t1 e vs vs1 Q xs env' acc') ys env3 acc) (fun _ => False)) (comp2W g t it g1 t1 e vs vs1 Q xs env2 acc)) (fun _ => False)
def wComp2 (it : W (List D)) (g : WG) (t : W Bool) (it1 : W (List D)) (g1 : WG) (t1 : W Bool) (e : W D) (vs vs1 : List Nat) : W (List D) := it.bind fun xs env Q _ => comp2W g t it1 g1 t1 e vs vs1 (fun ys env' => Q ys (restE env env' vs)) xs env []
section
variable {X : Cx} {T : List (Addr × Str)} {E : XK} {k : Nat} {tg tg1 : Expr}
theorem lc2_lift {w : W (List D)} {g : WG} {wt : W Bool} {w1 : W (List D)} {g1 : WG} {wt1 : W Bool} {we : W D} {vs vs1 : List Nat} {σ : L2.St} {H : Hp} {Q : VK} (hv : ∀ i ∈ vs1, i ∈ vs) (h : lift X.K T (rF X.K) E (wComp2 w g wt w1 g1 wt1 we vs vs1) σ H Q) :
    tLc2 (liftI X.K T E w) (liftG X.K T vs g) (lift X.K T rT E0 wt) (liftI X.K T E0 w1) (liftG X.K T vs1 g1) (lift X.K T rT E0 wt1) (lift X.K T (rE X.K) E0 we) vs vs1 σ H Q := by
  obtain ⟨c, wd, env, P, Ex, r, h, xo, kk⟩ := h
  refine ⟨c, wd, env, _, Ex, r, h, xo, fun xs env1 h1 J wd1 H1 le1 r1 wk hz Dl hD => ?_⟩
  have hc : Nt c.H Dl := r1.keep.dm Dl (Nt.of hD)
  have hq : ∀ q ∈ c.pn, q.1 ≠ Dl := fun q hm z => by
    have := (r1.pin q hm).1
    rw [z, hD] at this
    cases this
  have key : ∃ Pv : Nat → Hp → Prop, Pv = fun i H' => ∃ wd' env' acc us, Le wd1 wd' ∧ Rel X.K T { c with pn := (Dl, us) :: c.pn } wd' (wipeE env' vs) (L2.wipe σ vs) H' ∧ Reps X.K wd' us acc ∧ comp2W g wt w1 g1 wt1 we vs vs1 (fun ys env' => P ys (restE env1 env' vs)) (xs.drop i) env' acc := ⟨_, rfl⟩
  obtain ⟨Pv, ePv⟩ := key
  have mkPv : ∀ {i : Nat} {H' : Hp} (wd' env' acc us), Le wd1 wd' → Rel X.K T { c with pn := (Dl, us) :: c.pn } wd' (wipeE env' vs) (L2.wipe σ vs) H' → Reps X.K wd' us acc → comp2W g wt w1 g1 wt1 we vs vs1 (fun ys env' => P ys (restE env1 env' vs)) (xs.drop i) env' acc → Pv i H' := fun {i H'} wd' env' acc us a b c d => by
    rw [ePv]
    exact ⟨wd', env', acc, us, a, b, c, d⟩
  have exPv : ∀ {i : Nat} {H' : Hp}, Pv i H' → ∃ wd' env' acc us, Le wd1 wd' ∧ Rel X.K T { c with pn := (Dl, us) :: c.pn } wd' (wipeE env' vs) (L2.wipe σ vs) H' ∧ Reps X.K wd' us acc ∧ comp2W g wt w1 g1 wt1 we vs vs1 (fun ys env' => P ys (restE env1 env' vs)) (xs.drop i) env' acc := fun {i H'} h => by
    rw [ePv] at h
    exact h
  refine ⟨fun i m H => m = xs.length - i ∧ i ≤ xs.length ∧ Pv i H, ⟨xs.length, by simp, Nat.zero_le _, mkPv wd1 env1 [] [] (Le.refl _) ((r1.wipe vs).begin hD) .nil h1⟩, ?_⟩
  rintro i m H' ⟨rfl, hi, pv⟩
  obtain ⟨wd', env', acc, us, le, r', ru, f⟩ := exPv pv
  have G : Sub wd1.M H' := le.m.trans r'.good.sub
  by_cases hlt : i < xs.length
  · refine .inr ⟨wk.goes i H' hlt G, Pv (i + 1), fun H'' p' => ⟨xs.length - (i + 1), by omega, rfl, hlt, p'⟩, fun x H3 hy => ?_⟩
    obtain ⟨d, ed, y⟩ := wk.yields i H' x H3 hlt G hy
    obtain ⟨wd2, le2, r2, rp⟩ := r'.item le y
    have e : xs.drop i = d :: xs.drop (i + 1) := by
      obtain ⟨hi, e'⟩ := List.getElem?_eq_some_iff.mp ed
      rw [List.drop_eq_getElem_cons hi, e']
    rw [e] at f
    refine ⟨_, wd2, _, d, _, r2, rp, f, fun env2 f2 σ2 r3 ew => ?_⟩
    have ew3 : L2.wipe σ2 vs = L2.wipe σ vs := ew.trans (wipe_wipe fun _ h => h)
    refine ⟨ew3, ?_⟩
    refine ⟨_, wd2, env2, _, _, r3, f2, xok0, fun b env3 f3 bb wd3 H4 le3 r4 eb => ?_⟩
    obtain rfl : bb = b := eb
    have nxt : ∀ {wd4 : Wd} {env4 : PEnv} {H5 : Hp} {us : List V}, Rel X.K T { c with pn := (Dl, us) :: c.pn } wd4 env4 σ2 H5 → Rel X.K T { c with pn := (Dl, us) :: c.pn } wd4 (wipeE env4 vs) (L2.wipe σ vs) H5 := fun {wd4 env4 H5 us} z => by
      have := z.wipe vs
      rw [ew3] at this
      exact this
    cases bb with
    | false => exact mkPv wd3 env3 acc us ((le.trans le2).trans le3) (nxt r4) (ru.mono (le2.trans le3)) (br_f f3)
    | true =>
      show liftI X.K T E0 w1 σ2 H4 _
      refine ⟨_, wd3, env3, _, _, r4, br_t f3, xok0, fun ys env4 f4 J1 wd4 H5 le4 r5 wk1 hz1 => ?_⟩
      have key : ∃ Pw : Nat → Hp → Prop, Pw = fun j H' => ∃ wd' env' acc us, Le wd4 wd' ∧ Rel X.K T { c with pn := (Dl, us) :: c.pn } wd' (wipeE env' vs1) (L2.wipe σ2 vs1) H' ∧ Reps X.K wd' us acc ∧ cmpW g1 wt1 we vs1 (fun acc' env' => comp2W g wt w1 g1 wt1 we vs vs1 (fun ys env' => P ys (restE env1 env' vs)) (xs.drop (i + 1)) env' acc') (ys.drop j) env' acc := ⟨_, rfl⟩
      obtain ⟨Pw, ePw⟩ := key
      have mkPw : ∀ {j : Nat} {H' : Hp} (wd' env' acc us), Le wd4 wd' → Rel X.K T { c with pn := (Dl, us) :: c.pn } wd' (wipeE env' vs1) (L2.wipe σ2 vs1) H' → Reps X.K wd' us acc → cmpW g1 wt1 we vs1 (fun acc' env' => comp2W g wt w1 g1 wt1 we vs vs1 (fun ys env' => P ys (restE env1 env' vs)) (xs.drop (i + 1)) env' acc') (ys.drop j) env' acc → Pw j H' := fun {j H'} wd' env' acc us a b c d => by
        rw [ePw]
        exact ⟨wd', env', acc, us, a, b, c, d⟩
      have exPw : ∀ {j : Nat} {H' : Hp}, Pw j H' → ∃ wd' env' acc us, Le wd4 wd' ∧ Rel X.K T { c with pn := (Dl, us) :: c.pn } wd' (wipeE env' vs1) (L2.wipe σ2 vs1) H' ∧ Reps X.K wd' us acc ∧ cmpW g1 wt1 we vs1 (fun acc' env' => comp2W g wt w1 g1 wt1 we vs vs1 (fun ys env' => P ys (restE env1 env' vs)) (xs.drop (i + 1)) env' acc') (ys.drop j) env' acc := fun {j H'} h => by
        rw [ePw] at h
        exact h
      refine ⟨fun j m H => m = ys.length - j ∧ j ≤ ys.length ∧ Pw j H, ⟨ys.length, by simp, Nat.zero_le _, mkPw wd4 env4 acc us (Le.refl _) (r5.wipe vs1) (ru.mono ((le2.trans le3).trans le4)) f4⟩, ?_⟩
      rintro j m H6 ⟨rfl, hj, pw⟩
      obtain ⟨wd5, env5, acc5, us5, le5, r6, ru5, f5⟩ := exPw pw
      have G1 : Sub wd4.M H6 := le5.m.trans r6.good.sub
      by_cases hlt1 : j < ys.length
      · refine .inr ⟨wk1.goes j H6 hlt1 G1, Pw (j + 1), fun H'' p' => ⟨ys.length - (j + 1), by omega, rfl, hlt1, p'⟩, fun x1 H7 hy1 => ?_⟩
        obtain ⟨d1, ed1, y1⟩ := wk1.yields j H6 x1 H7 hlt1 G1 hy1
        obtain ⟨wd6, le6, r7, rp1⟩ := r6.item le5 y1
        have e1 : ys.drop j = d1 :: ys.drop (j + 1) := by
          obtain ⟨hi, e'⟩ := List.getElem?_eq_some_iff.mp ed1
          rw [List.drop_eq_getElem_cons hi, e']
        rw [e1] at f5
        refine ⟨_, wd6, _, d1, _, r7, rp1, f5, fun env6 f6 σ3 r8 ewb => ?_⟩
        have ewb3 : L2.wipe σ3 vs1 = L2.wipe σ2 vs1 := ewb.trans (wipe_wipe fun _ h => h)
        refine ⟨ewb3, ?_⟩
        refine ⟨_, wd6, env6, _, _, r8, f6, xok0, fun b1 env7 f7 bb1 wd7 H8 le7 r9 eb1 => ?_⟩
        obtain rfl : bb1 = b1 := eb1
        have nxt1 : ∀ {wd4 : Wd} {env4 : PEnv} {H5 : Hp} {us : List V}, Rel X.K T { c with pn := (Dl, us) :: c.pn } wd4 env4 σ3 H5 → Rel X.K T { c with pn := (Dl, us) :: c.pn } wd4 (wipeE env4 vs1) (L2.wipe σ2 vs1) H5 := fun {wd4 env4 H5 us} z => by
          have := z.wipe vs1
          rw [ewb3] at this
          exact this
        cases bb1 with
        | false => exact mkPw wd7 env7 acc5 us5 ((le5.trans le6).trans le7) (nxt1 r9) (ru5.mono (le6.trans le7)) (br_f f7)
        | true =>
          show lift X.K T (rE X.K) E0 we σ3 H8 _
          refine ⟨_, wd7, env7, _, _, r9, br_t f7, xok0, fun y1 env8 f8 yv wd8 H9 le8 r10 rp10 => ?_⟩
          have hlt : us5.length < sizeLine := by
            rw [ru5.length]
            exact Nat.lt_of_lt_of_le f8.1 (by decide)
          refine ⟨us5, (r10.pin (Dl, us5) List.mem_cons_self).1, hlt, mkPw wd8 env8 (acc5 ++ [y1]) (us5 ++ [yv]) (((le5.trans le6).trans le7).trans le8) ?_ ?_ f8.2⟩
          · exact (nxt1 r10).more hc hq yv hlt
          · exact ((ru5.mono (le6.trans le7)).mono le8).append (.cons rp10 .nil)
      · have e1 : j = ys.length := by omega
        subst e1
        refine .inl ⟨wk1.stops H6 G1, ?_⟩
        rw [List.drop_length] at f5
        refine mkPv wd5 (wipeE env5 vs1) acc5 us5 ((((le.trans le2).trans le3).trans le4).trans le5) ?_ ru5 f5
        have z := r6.wipe vs
        rw [wipe_wipe hv, ew3] at z
        exact z
  · have e : i = xs.length := by omega
    subst e
    refine .inl ⟨wk.stops H' G, ?_⟩
    rw [List.drop_length] at f
    obtain ⟨p1, p2, p3, p4⟩ := r'.pin (Dl, us) List.mem_cons_self
    have r6 : Rel X.K T c wd' (restE env1 env' vs) σ H' := Rel.rest r1 le r'.done
    have w0 : ∀ {i : Nat} {s : Sl}, i ∉ vs → env'[i]? = some (some s) → (wipeE env' vs)[i]? = some (some s) := fun {i s} hn e => by
      have key : ∀ us : List Nat, i ∉ us → (wipeE env' us)[i]? = env'[i]? := fun us => by
        induction us with
        | nil => intro _; rfl
        | cons u us ih2 =>
          intro hu
          show ((wipeE env' us).set u none)[i]? = env'[i]?
          rw [List.getElem?_set_ne (fun z => hu (by rw [← z]; exact List.mem_cons_self)), ih2 fun z => hu (List.mem_cons_of_mem _ z)]
      rw [key vs hn]
      exact e
    refine kk acc _ f (.ref Dl) wd' H' (le1.trans le) r6 ⟨Dl, us, rfl, p1, p2, p3, hc, ru, ⟨fun i ys e => ?_, fun i cs e => ?_⟩, hq⟩
    · rcases restE_some e with ⟨_, ⟨x, z⟩, _⟩ | ⟨hn, e⟩
      · cases z
      · intro z
        exact p4.o i ys (w0 hn e) (by rw [wipe_get hn]; exact z)
    · rcases restE_some e with ⟨_, ⟨x, z⟩, _⟩ | ⟨hn, e⟩
      · cases z
      · exact p4.c i cs (w0 hn e)
theorem jf_comp2 {elt iter iter1 : Expr} {ifs ifs1 : List Expr} {scope : Scope} (own : List (Str × Nat)) (vs1 : List Nat) {pos : Pos} {w : W (List D)} {g : WG} {wt : W Bool} {w1 : W (List D)} {g1 : WG} {wt1 : W Bool} {we : W D} (B : Bd X E k) (hi : JI T X E tg iter w) (ok : BlkOk X.N X.env.scope scope own)
    (hg : ∀ (s : Shared) (H : Hp) (C : Addr) (cl : List (Str × Addr)) (fp : List Addr), JG T (X.blk s H scope (compEnvC scope cl C X.env) fp) (own.map (·.2)) tg g)
    (ht : ∀ (s : Shared) (H : Hp) (C : Addr) (cl : List (Str × Addr)) (fp : List Addr), Bd (X.blk s H scope (compEnvC scope cl C X.env) fp) E0 k → JTs T (X.blk s H scope (compEnvC scope cl C X.env) fp) E0 ifs wt)
    (hi1 : ∀ (s : Shared) (H : Hp) (C : Addr) (cl : List (Str × Addr)) (fp : List Addr), Bd (X.blk s H scope (compEnvC scope cl C X.env) fp) E0 k → JI T (X.blk s H scope (compEnvC scope cl C X.env) fp) E0 tg1 iter1 w1)
    (hg1 : ∀ (s : Shared) (H : Hp) (C : Addr) (cl : List (Str × Addr)) (fp : List Addr), JG T (X.blk s H scope (compEnvC scope cl C X.env) fp) vs1 tg1 g1)
    (ht1 : ∀ (s : Shared) (H : Hp) (C : Addr) (cl : List (Str × Addr)) (fp : List Addr), Bd (X.blk s H scope (compEnvC scope cl C X.env) fp) E0 k → JTs T (X.blk s H scope (compEnvC scope cl C X.env) fp) E0 ifs1 wt1)
    (he : ∀ (s : Shared) (H : Hp) (C : Addr) (cl : List (Str × Addr)) (fp : List Addr), Bd (X.blk s H scope (compEnvC scope cl C X.env) fp) E0 k → JE T (X.blk s H scope (compEnvC scope cl C X.env) fp) E0 elt we)
    (hv : ∀ i ∈ vs1, i ∈ own.map (·.2) := by decide) (hs : ∀ x, foldedSetIterable iter X.env x = pure x := by intro _; rfl) (hs1 : ∀ env x, foldedSetIterable iter1 env x = pure x := by intro _ _; rfl) : JF T X E (.ListComp elt [⟨tg, iter, ifs, 0⟩, ⟨tg1, iter1, ifs1, 0⟩] scope pos) (wComp2 w g wt w1 g1 wt1 we (own.map (·.2)) vs1) := by
  have Bb : ∀ (s : Shared) (H : Hp) (C : Addr) (cl : List (Str × Addr)) (fp : List Addr), Bd (X.blk s H scope (compEnvC scope cl C X.env) fp) E0 k := fun s H C cl fp => ⟨B.room, passL, PassesOwn.never, B.calm, B.nd⟩
  exact peI (pe_lc2 B.calm B.nd hi ok hv hg (fun s H C cl fp => ht s H C cl fp (Bb s H C cl fp)) (fun s H C cl fp => hi1 s H C cl fp (Bb s H C cl fp)) hg1 (fun s H C cl fp => ht1 s H C cl fp (Bb s H C cl fp)) (fun s H C cl fp => he s H C cl fp (Bb s H C cl fp)) hs hs1) fun σ H Q h => lc2_lift hv h
end
end Pd

namespace Pd
open PySem PySem.Spec PyProof.Rows L2 LamX
structure Clause where
  c : Value
  i : Option Nat
  ts : Addr → Value → Option Addr → TS
def endsAs (i : Nat) (D : Ends) : Ends := { nx := fun τ G => D.nx (τ.set i none) G, rt := D.rt, bk := fun τ G => D.bk (τ.set i none) G, ct := fun τ G => D.ct (τ.set i none) G }
def Clause.wish (q : Clause) (D : Ends) (a : Addr) : WX := fun cls d τ G => match q.i with
  | none => q.ts a cls d D τ G
  | some i => q.ts a cls d (endsAs i D) (τ.set i (some (.ref a))) G
def wMix (K : PySem.W.Frag) (out : WX) (D : Ends) : List Clause → WX
  | [] => out
  | q :: r => fun cls d τ G => ∃ y, PySem.W.exmOne K cls q.c = some y ∧ (y = true → ∀ a, G a = none → q.wish D a cls d τ G) ∧ (y = false → wMix K out D r cls d τ G)
abbrev SuiteOk (X : Cx) (body : List Stmt) (ts : Addr → Value → Option Addr → TS) : Prop := ∀ (a : Addr) (oe : Obj) (cls : Value) (d : Option Addr) (pn : List (Addr × Obj)), Zc cls d oe → (∃ vs, oe.data = .fields vs) → PSs (X.suite a ((a, oe) :: pn)) body (ts a cls d)
inductive MixOk (X : Cx) : List ExceptHandler → List Clause → Prop
  | nil : MixOk X [] []
  | plain {x : Str} {c : Value} {ts : Addr → Value → Option Addr → TS} {st : Stmt} {sts : List Stmt} {p1 p2 : Pos} {hs : List ExceptHandler} {qs : List Clause} : Names X x c → SuiteOk X (st :: sts) ts → MixOk X hs qs →
      MixOk X (.ExceptHandler (some (.Name x p1)) none (st :: sts) p2 :: hs) (⟨c, none, ts⟩ :: qs)
  | named {x n : Str} {c : Value} {i : Nat} {ts : Addr → Value → Option Addr → TS} {st : Stmt} {sts : List Stmt} {p1 p2 : Pos} {hs : List ExceptHandler} {qs : List Clause} : Names X x c → X.N[i]? = some n → X.env.kindOf n = some .local → SuiteOk X (st :: sts) ts → MixOk X hs qs →
      MixOk X (.ExceptHandler (some (.Name x p1)) (some n) (st :: sts) p2 :: hs) (⟨c, some i, ts⟩ :: qs)
section
variable {X : Cx} {out : WX} {D : Ends} {pins : List (Addr × Obj)} {a : Addr} {B : Heap} {sI s' : Shared} {τ : L2.St} {G : Hp} {cls : Value} {d : Option Addr}
theorem seat {g : Heap} (hs : X.stack = X.env :: X.outer) (hf : X.env.frame = some X.env.locals) (J : Inv X pins τ G sI) (nb : ∀ b o, sI.heap.get? b = some o → b ∉ frs X.stack → B.get? b = some o) (na : G a = none) (os : s'.os = sI.os) (ag : AllBare s'.gens)
    (fl : HandSPX.FlyingZ B (X.env :: X.outer) a (Zc cls d) g) (up : sI.heap.UpToSlots g) :
    ∃ oe, g.get? a = some oe ∧ Zc cls d oe ∧ (∃ vs, oe.data = .fields vs) ∧ Inv X pins τ G { s' with heap := g } ∧ Inv (X.suite a ((a, oe) :: (X.pn ++ pins))) [] τ G { s' with heap := g } := by
  have I1 : Inv X pins τ G { s' with heap := g } := J.landed nb fl.1 up os ag
  obtain ⟨oe, vs, ho, hz, hd⟩ := fl.there
  have out : a ∉ frs (X.env :: X.outer) := fun hm => by
    obtain ⟨_, o2, e2, no⟩ := fl.2.2.1.mem hm
    rw [ho] at e2
    cases e2
    exact no _ hd
  have n1 : a ≠ X.env.locals := fun z => out (List.mem_filterMap.mpr ⟨X.env, List.mem_cons_self, by rw [hf, z]⟩)
  have n2 : a ∉ X.fs := fun hm => by
    obtain ⟨e, he, q⟩ := List.mem_filterMap.mp hm
    exact out (List.mem_filterMap.mpr ⟨e, List.mem_cons_of_mem _ he, q⟩)
  exact ⟨oe, ho, hz, ⟨vs, hd⟩, I1, I1.suite ho hd na n1 n2⟩
theorem mix_run {g : Heap} (hs : X.stack = X.env :: X.outer) (hf : X.env.frame = some X.env.locals) (nd : X.N.Nodup) (tk : Takes X out) (ok : X.Ok) (J : Inv X pins τ G sI) (nb : ∀ b o, sI.heap.get? b = some o → b ∉ frs X.stack → B.get? b = some o) (na : G a = none)
    (os : s'.os = sI.os) (ag : AllBare s'.gens) (fl : HandSPX.FlyingZ B (X.env :: X.outer) a (Zc cls d) g) (up : sI.heap.UpToSlots g) {hds : List ExceptHandler} {qs : List Clause} (m : MixOk X hds qs) :
    wMix X.K out D qs cls d τ G → wpAny (model X.prog X.w) X.A (handleBy (.ref a) X.env hds) (SP X pins D) X.xe { s' with heap := g } := by
  have back : ∀ {u : Heap}, HandSPX.FlyingZ B (X.env :: X.outer) a (Zc cls d) u → g.UpToSlots u → ∃ oe, u.get? a = some oe ∧ Zc cls d oe ∧ (∃ vs, oe.data = .fields vs) ∧ Inv X pins τ G { s' with heap := u } ∧ Inv (X.suite a ((a, oe) :: (X.pn ++ pins))) [] τ G { s' with heap := u } :=
    fun {u} f1 u1 => seat hs hf J nb na os ag f1 (up.trans u1)
  obtain ⟨oe, ho, hz, hd, I1, I2⟩ := seat hs hf J nb na os ag fl up
  have isC : PySem.W.Looks (model X.prog X.w) g (typeOf (.ref a)) cls := fun A Q E s k q => wpAny_typeOf_ref (k _ _ ho) (by rw [hz.1]; exact q)
  have nm : ∀ {x : Str} {c : Value} {p : Pos} {Q : Value → Shared → Prop} {F : Value → Shared → Prop}, Names X x c → Q c { s' with heap := g } → wpAny (model X.prog X.w) (X.A.mark (some (.ref a))) (eval (.Name x p) X.env) Q F { s' with heap := g } := fun {x c p Q F} hc q => by
    obtain ⟨h1, h2, h3 | ⟨h3, h4, h5⟩⟩ := hc
    · exact ld_glob (X := X.suite a ((a, oe) :: (X.pn ++ pins))) I2 h1 h3 q h2
    · exact ld_blt (X := X.suite a ((a, oe) :: (X.pn ++ pins))) I2 h1 h3 h4 q h5 h2
  induction m with
  | nil =>
    intro w
    refine wpAny_handleBy_nil ?_
    obtain ⟨_, _, _, o2, vs2, T, oT, ts2, e2, _, d2, f2, _⟩ := id fl
    unfold PySem.passOn
    refine wpAny_bind (wpAny_field e2 d2 f2 ?_)
    rw [if_neg (show ¬ ((Value.ref T == Value.none) = true) by simp)]
    have on : wpAny (model X.prog X.w) X.A (setFlight (.ref a) X.env.frame) (fun _ s2 => wpAny (model X.prog X.w) X.A (throw (.ref a) : Sem Flow) (SP X pins D) X.xe s2) X.xe { s' with heap := g } := by
      rw [hf]
      refine HandSPX.setFlight_upZ fl fun u hu u1 => wpAny_throw (tk _ _ ⟨a, B, sI, pins, τ, G, cls, d, rfl, J, nb, up.trans u1, .inr (.inr ?_), na, os, ag, w⟩)
      rw [hs]
      exact hu
    first
      | exact wpAny_bind (wpAny_pure (wpAny_bind on))
      | exact wpAny_bind on
  | plain hc hsu r ih =>
    rintro ⟨y, ey, yes, no⟩
    refine wpAny_handleBy_cons (codeAny_handlers_test ?_) (by intro q; cases q)
    refine nm hc ((PySem.W.exm_one (M := model X.prog X.w) I1.kIn isC ey).here ?_)
    cases y with
    | false => exact ih (no rfl)
    | true =>
      refine codeAny_handlers_suite (HandSPX.lands_againZ fl fun u f1 u1 => ?_)
      obtain ⟨o4, _, hz4, hd4, _, S4⟩ := back f1 u1
      refine wpAny_mono ((hsu a o4 cls d (X.pn ++ pins) hz4 hd4).run [] _ _ G _ S4 (yes rfl a na)) (fun f s6 hq => ?_) (fun _ _ z => False.elim z)
      cases f with
      | ret v =>
        obtain ⟨v6, τ6, G6, S6, r6, q6⟩ := hq
        exact ⟨v6, τ6, G6, S6.unsuite ok, r6, q6⟩
      | next =>
        obtain ⟨τ6, G6, S6, q6⟩ := hq
        exact ⟨τ6, G6, S6.unsuite ok, q6⟩
      | brk =>
        obtain ⟨τ6, G6, S6, q6⟩ := hq
        exact ⟨τ6, G6, S6.unsuite ok, q6⟩
      | cont =>
        obtain ⟨τ6, G6, S6, q6⟩ := hq
        exact ⟨τ6, G6, S6.unsuite ok, q6⟩
  | @named x n c i ts st sts p1 p2 hs2 qs2 hc hi hl hsu r ih =>
    rintro ⟨y, ey, yes, no⟩
    refine wpAny_handleBy_cons (codeAny_handlers_test ?_) (by intro q; cases q)
    refine nm hc ((PySem.W.exm_one (M := model X.prog X.w) I1.kIn isC ey).here ?_)
    cases y with
    | false => exact ih (no rfl)
    | true =>
      refine codeAny_handlers_suite_as (HandSPX.lands_againZ fl fun u f1 u1 => ?_)
      obtain ⟨o4, _, hz4, hd4, _, S4⟩ := back f1 u1
      refine store_ok (X := X.suite a ((a, o4) :: (X.pn ++ pins))) (v := .ref a) S4 nd hi (.inl hl) rfl (fun s5 S5 => ?_) (.inr hl)
      refine wpAny_mono ((hsu a o4 cls d (X.pn ++ pins) hz4 hd4).run [] s5 _ G _ S5 (yes rfl a na)) (fun f s6 hq => ?_) (fun _ _ z => False.elim z)
      have gone : ∀ {τ6 : L2.St} {G6 : Hp} {P : Shared → Prop}, Inv (X.suite a ((a, o4) :: (X.pn ++ pins))) [] τ6 G6 s6 → (∀ s7, Inv X pins (τ6.set i none) G6 s7 → P s7) → wpAny (model X.prog X.w) X.A (do bindName X.env n .none; unbindBehindTheSuite X.env n p2) (fun _ s7 => P s7) X.xe s6 :=
        fun {τ6 G6 P} S6 hP => gone_ok (S6.unsuite ok) nd hi hl hP
      cases f with
      | ret v =>
        obtain ⟨v6, τ6, G6, S6, r6, q6⟩ := hq
        exact gone S6 fun s7 J7 => ⟨v6, _, G6, J7, r6, q6⟩
      | next =>
        obtain ⟨τ6, G6, S6, q6⟩ := hq
        exact gone S6 fun s7 J7 => ⟨_, G6, J7, q6⟩
      | brk =>
        obtain ⟨τ6, G6, S6, q6⟩ := hq
        exact gone S6 fun s7 J7 => ⟨_, G6, J7, q6⟩
      | cont =>
        obtain ⟨τ6, G6, S6, q6⟩ := hq
        exact gone S6 fun s7 J7 => ⟨_, G6, J7, q6⟩
end
theorem ps_try_mix {X : Cx} {body : List Stmt} {h0 : ExceptHandler} {hds : List ExceptHandler} {qs : List Clause} {pos : Pos} {tb : WX → TS} {out : WX} (hs : X.stack = X.env :: X.outer) (hf : X.env.frame = some X.env.locals) (nd : X.N.Nodup) (tk : Takes X out)
    (hb : ∀ (W : WX) (pn : List (Addr × Obj)) (xe : Value → Shared → Prop), Takes (X.tr pn xe) W → PassesOwn (model X.prog X.w) X.A X.env xe → PSs (X.tr pn xe) body (tb W)) (m : MixOk X (h0 :: hds) qs) :
    PS X (.Try body (h0 :: hds) [] [] pos) (fun D τ G => tb (wMix X.K out D qs) D τ G) := by
  refine ⟨fun pins s τ G D I h => wpAny_Try_except ?_⟩
  have ok := I.ok
  have fr : X.A.frames = some (X.env :: X.outer) := by rw [ok.frames, hs]
  let xe : Value → Shared → Prop := fun e s1 => wpAny (model X.prog X.w) X.A (noteFrame e X.env) (fun _ s2 => wpAny (model X.prog X.w) X.A (setFlight e none) (fun _ s3 => wpAny (model X.prog X.w) X.A (handleBy e X.env (h0 :: hds)) (SP X pins D) X.xe s3) X.xe s2) X.xe s1
  have tk2 : Takes (X.tr (X.pn ++ pins) xe) (wMix X.K out D qs) := fun u s1 ⟨a, B, sI, _, τ1, G1, cls, d, eu, J, nb, up, sky, na, os, ag, w⟩ => by
    subst eu
    have sky2 : Sky B (X.env :: X.outer) a (Zc cls d) X.env.locals s1.heap := by rw [← hs]; exact sky
    exact Sky.land Zc.steady fr hf sky2 fun u f1 u1 => mix_run hs hf nd tk ok (J.ofTry ok) nb na os ag f1 (up.trans u1) m w
  refine wpAny_mono ((hb (wMix X.K out D qs) (X.pn ++ pins) xe tk2 PassesOwn.looking).run [] s τ G D (I.toTry _) h) (fun f s1 hq => ?_) (fun _ _ he => he)
  cases f with
  | ret v =>
    obtain ⟨v1, τ1, G1, J1, r1, q1⟩ := hq
    exact ⟨v1, τ1, G1, J1.ofTry ok, r1, q1⟩
  | next =>
    obtain ⟨τ1, G1, J1, q1⟩ := hq
    exact wpAny_execs_nil ⟨τ1, G1, J1.ofTry ok, q1⟩
  | brk =>
    obtain ⟨τ1, G1, J1, q1⟩ := hq
    exact ⟨τ1, G1, J1.ofTry ok, q1⟩
  | cont =>
    obtain ⟨τ1, G1, J1, q1⟩ := hq
    exact ⟨τ1, G1, J1.ofTry ok, q1⟩
end Pd

namespace Pd
open PySem PySem.Spec PyProof.Rows L2 LamX
abbrev SizAll (H : Hp) : Prop := ∀ a o, H a = some o → SizedH o
theorem hok_siz {P : Program} {w : World} {H : Hp} {h : Heap} (x : HOk P w H h) : SizAll H := fun a o e => by
  have z := x a o e
  cases o with
  | lst xs => exact z.1
  | tup xs => exact z.1
  | _ => exact trivial
theorem pssS {X : Cx} {sts : List Stmt} {t : TS} (h : PSs X sts t) : PSs X sts (fun D σ H => SizAll H → t D σ H) := ⟨fun pins s σ H D I q => h.run pins s σ H D I (q (hok_siz I.hok))⟩
structure ExcC (K : PySem.W.Frag) (mg : Str → Option Value) (C : Str) : Prop where
  q : PySem.W.excIn K (He.ga K C) He.veBase "ValueError.__new__" = true
  k : PySem.W.keepIn K (.ref (He.ga K C)) = true
  b : PySem.W.subIn K (.ref (He.ga K C)) (.type "BaseException") = some true
  t : PySem.W.typeIn K (.ref (He.ga K C)) = some (.type "type")
  g : mg C = some (.ref (He.ga K C))
def sRaise (C : Str) : WS := fun pe _ => pe.ex ⟨C, []⟩
section
variable {X : Cx} {T : List (Addr × Str)} {E : XK} {k : Nat}
theorem js_raise {C m : Str} {j : Nat} {p p2 pos pos' : Pos} (B : Bd X E k) (tk : Takes X (fun cls d _ H => E cls d H)) (e : ExcC X.K X.mg C) (hg : Gl X C := by rfl) (hd : (C == ("__debug__" : Str)) = false := by decide) :
    JS T X E (.Raise (some (.Call (.Name C p) [.Constant (.str m) j p2] [] pos)) none pos') (sRaise C) :=
  psI (ps_raise B.calm tk (pmk_own PySem.F.excBase_ValueError e.q e.g e.k (raises_own e.b e.t) hg hd)) fun D σ H ⟨c, wd, env, pe, r, h, o⟩ => o.ex _ h _ _ wd H r.ord r.good r.keep ⟨rfl, .inl ⟨rfl, rfl⟩⟩
end
def dOnly (env : PEnv) : PEnv := env.map keepD
theorem dOnly_some {env : PEnv} {i : Nat} {s : Sl} (h : (dOnly env)[i]? = some (some s)) : ∃ x, s = .d x ∧ env[i]? = some (some (.d x)) := by
  unfold dOnly at h
  rw [List.getElem?_map] at h
  cases e : env[i]? with
  | none => rw [e] at h; cases h
  | some o =>
    rw [e] at h
    cases o with
    | none => cases h
    | some t =>
      cases t with
      | d x =>
        have : Sl.d x = s := by simpa [keepD] using h
        exact ⟨x, this.symm, rfl⟩
      | _ => simp [keepD] at h
section
variable {K : PySem.W.Frag} {T : List (Addr × Str)} {c : Ctx} {wd : Wd} {env : PEnv} {σ : L2.St} {H H1 : Hp}
theorem Good.extN (g : Good T wd H) (e : ExtN H H1) (t : Tabs T H1) (z : SizAll H1) : Good T wd H1 := by
  refine ⟨fun a o h => e a o (g.sub a o h) (g.ntb a o h).1, g.ntb, fun b hb => ?_, t, z⟩
  obtain ⟨h1, x, s, cc, h2, h3⟩ := g.box b hb
  exact ⟨h1, x, s, cc, e b _ h2 noTb_lst, h3⟩
theorem Keep.extN (e : ExtN H H1) : Keep wd H H1 := ⟨fun a o h _ t => e a o h t, fun a n o h t => n o (e a o h t) t⟩
theorem Rel.rebase (r : Rel K T c wd env σ H) : Rel K T ⟨wd, H, []⟩ wd (dOnly env) σ H := by
  refine ⟨Ord.refl _ _, r.good, Keep.refl _ _, by unfold dOnly; rw [List.length_map]; exact r.len, fun i x e => ?_, fun i xs e => ?_, fun i j xs ys p e _ _ _ => ?_, fun q hq => (nomatch hq), ⟨fun i p C fs e => ?_, fun i j p p' C C' fs gs e _ => ?_, fun i cs e => ?_, fun i cs e => ?_, fun i j cs ds e _ => ?_, fun i lk kvs e => ?_, fun i j lk lk' ks ls p e _ _ _ => ?_⟩⟩
  · obtain ⟨y, ey, e⟩ := dOnly_some e
    cases ey
    exact r.dat i x e
  all_goals
    obtain ⟨y, ey, _⟩ := dOnly_some e
    cases ey
end
structure Hd where
  x : Str
  s : Str
  f : Option Str
def outH : List Hd → Xc → (D → Prop) → Prop
  | [], _, _ => False
  | h :: r, x, P => (h.x = x.cls ∧ (match h.f with
    | none => P (.lst [.str h.s])
    | some f => ∃ v, x.fs.lookup f = some v ∧ P (.lst [.str h.s, v]))) ∨ (h.x ≠ x.cls ∧ outH r x P)
def wOut (cls : List Str) (hs : List Hd) (w : W D) : W D := fun env Q _ => w (dOnly env) (fun d _ => Q d env) (fun x => x.cls ∈ cls ∧ outH hs x fun d => Q d env)
def tsPl (s : Str) : Addr → Value → Option Addr → TS := fun _ _ _ D σ H => tLst (tCons (tC (.str s)) tNil) σ H D.rt
def tsNm (K : PySem.W.Frag) (C : Str) (i : Nat) (s f : Str) : Addr → Value → Option Addr → TS := fun a cls d D σ H => tLst (tCons (tC (.str s)) (tCons (tXf a cls d (He.ga K C) f (fun σ H Q => ∃ v, σ[i]? = some (some v) ∧ Q v H)) tNil)) σ H D.rt
def clOf (K : PySem.W.Frag) (i : Nat) (h : Hd) : Clause := match h.f with
  | none => ⟨.ref (He.ga K h.x), none, tsPl h.s⟩
  | some f => ⟨.ref (He.ga K h.x), some i, tsNm K h.x i h.s f⟩
theorem out_gives {X : Cx} {Ng : List Str} {x a q : Str} {sg : Scope} {g : Addr} {cdg : Value} {hds : List ExceptHandler} {h0 : ExceptHandler} {qs : List Clause} {p1 p2 p3 p8 : Pos} (nd : Ng.Nodup) (hN0 : ∀ f : Addr, (L2.start Ng [V.ref f])[0]? = some (some (V.ref f)))
    (m : ∀ (s : Shared) (H : Hp), MixOk (cxOf C8.CX0 X.prog X.w X.K X.mg X.base Ng x sg g cdg X.A X.stack s H C8.E0).nox (h0 :: hds) qs) :
    GivesTo X Ng x sg g cdg [.Try [.Return (some (.Call (.Name a p1) [] [] p2)) p3] (h0 :: hds) [] [] p8] a q
      (fun tl H Q => SizAll H → tl (fun cl dd H' => ∀ τ : L2.St, τ.length = Ng.length → wMix X.K (fun _ _ _ _ => False) { nx := fun _ H' => Q .non H', rt := Q } qs cl dd τ H') H Q) := by
  intro f c' s H Q tl act hc h
  refine ⟨_, pssS (pss_one (ps_try_mix (X := (cxOf C8.CX0 X.prog X.w X.K X.mg X.base Ng x sg g cdg X.A X.stack s H C8.E0).nox) (out := fun _ _ _ _ => False) rfl rfl nd LamX.takes0
    (tb := fun W D σ H => ∃ Ec : XK, (∀ cls d σ' H', Ec cls d H' → σ'.length = Ng.length → W cls d σ' H') ∧ σ[0]? = some (some (.ref f)) ∧ H c' = some (CodeO c' q) ∧ tl Ec H D.rt) (fun W pn xe tk _ => ⟨fun pins s' σ H' D I h' => ?_⟩) (m s H))), fun siz => ?_⟩
  · obtain ⟨Ec, hW, h1, h2, h3⟩ := h'
    have tk2 : Takes ((cxOf C8.CX0 X.prog X.w X.K X.mg X.base Ng x sg g cdg X.A X.stack s H C8.E0).tr pn xe) (fun cls d τ G => τ.length = Ng.length → W cls d τ G) :=
      fun u s1 ⟨b, B, sI, pins, τ, G, cls, d, e, J, nb, up, sky, na, os, ag, w⟩ => tk u s1 ⟨b, B, sI, pins, τ, G, cls, d, e, J, nb, up, sky, na, os, ag, w J.len⟩
    exact (pss_one (ps_ret (pos := p3) (act _ pn xe Ec p1 p2 tk2 hW))).run pins s' σ H' D I ⟨h1, h2, h3⟩
  · exact ⟨_, fun cls d σ' H' hE hl => hE σ' hl, hN0 f, hc, h siz⟩
def ExmOk (K : PySem.W.Frag) (cls : List Str) (hs : List Hd) : Prop := ∀ y ∈ cls, ∀ h ∈ hs, PySem.W.exmOne K (.ref (He.ga K y)) (.ref (He.ga K h.x)) = some (decide (h.x = y))
theorem mix_out {K : PySem.W.Frag} {T : List (Addr × Str)} {cls : List Str} {i n : Nat} {x : Xc} {cl : Value} {dd : Option Addr} {wd : Wd} {H : Hp} {Dn : Ends} {P : Pd.D → Prop} (hx : x.cls ∈ cls) (xr : XRep K x cl dd wd H) (hi : i < n)
    (fin : ∀ xs : List Pd.D, P (.lst xs) → ∀ vs : List V, Reps K wd vs xs → vs.length ≤ sizeLine → ∀ p, H p = none → Dn.rt (.ref p) (upd H p (.lst vs))) {τ : L2.St} (hl : τ.length = n) :
    ∀ {hs : List Hd}, ExmOk K cls hs → outH hs x P → wMix K (fun _ _ _ _ => False) Dn (hs.map (clOf K i)) cl dd τ H
  | [], _, h => h
  | h :: r, em, ho => by
    have e1 : cl = .ref (He.ga K x.cls) := xr.1
    have e2 := em x.cls hx h List.mem_cons_self
    have ec : (clOf K i h).c = .ref (He.ga K h.x) := by
      unfold clOf
      cases h.f <;> rfl
    refine ⟨decide (h.x = x.cls), by rw [ec, e1]; exact e2, fun hy a ha => ?_, fun hn => ?_⟩
    · have hc := of_decide_eq_true hy
      rcases ho with ⟨_, ho⟩ | ⟨ne, _⟩
      · unfold clOf Clause.wish
        cases hf : h.f with
        | none =>
          rw [hf] at ho
          exact ⟨by show 1 ≤ sizeLine; decide, fun p hp => fin _ ho [.str h.s] (.cons (.str _) .nil) (by show 1 ≤ sizeLine; decide) p hp⟩
        | some f =>
          rw [hf] at ho
          obtain ⟨v, lv, ho⟩ := ho
          rcases xr.2 with ⟨z, _⟩ | ⟨b, vs, hb, hH, hn, hr⟩
          · rw [z] at lv
            cases lv
          · obtain ⟨v', l1, l2⟩ := lookup_reps hn hr lv
            refine ⟨.ref a, List.getElem?_set_self (by rw [hl]; exact hi), rfl, by rw [e1, hc], b, vs, v', hb, hH, l1, by show 2 ≤ sizeLine; decide, fun p hp => ?_⟩
            exact fin _ ho [.str h.s, v'] (.cons (.str _) (.cons l2 .nil)) (by show 2 ≤ sizeLine; decide) p hp
      · exact absurd hc ne
    · have hc := of_decide_eq_false hn
      rcases ho with ⟨e, _⟩ | ⟨_, ho⟩
      · exact absurd e hc
      · exact mix_out (T := T) hx xr hi fin hl (fun y hy k hk => em y hy k (List.mem_cons_of_mem _ hk)) ho
section
variable {X : Cx} {T : List (Addr × Str)} {E : XK} {k : Nat}
theorem je_out {x a : Str} {g c P : Addr} {pg : Arguments} {sg : Scope} {fd : FuncData} {h0 : ExceptHandler} {hds : List ExceptHandler} {Ng : List Str} {cls : List Str} {hs : List Hd} {i kb : Nat} {params : Arguments} {body : Expr} {scope : Scope} {w : W D} {p lpos pos p1 p2 p3 p8 : Pos}
    (B : Bd X E k) (Dg : FunD X.K x x pg [.Try [.Return (some (.Call (.Name a p1) [] [] p2)) p3] (h0 :: hds) [] [] p8] sg [] [] g fd) (hm : X.mg x = some (.ref g)) (hb : Binds X.K fd [a] []) (Sg : FnScope Ng [a] sg) (hNg : Ng[0]? = some a) (hva : Vis sg a) (hi : i < Ng.length)
    (mx : ∀ (cdg : Value) (s : Shared) (H : Hp), MixOk (cxOf C8.CX0 X.prog X.w X.K X.mg X.base Ng x sg g cdg X.A X.stack s H C8.E0).nox (h0 :: hds) (hs.map (clOf X.K i))) (em : ExmOk X.K cls hs)
    (TB : TabB X.base X.mg c P) (hcode : X.env.code = .ref c) (hmT : (P, X.env.qual ++ "<lambda>") ∈ T) (hu : ∀ p ∈ T, p.1 = P → p.2 = X.env.qual ++ "<lambda>") (L : LamS X.env.scope scope)
    (hbody : ∀ (A : Around) (outer : List Env) (s : Shared) (H : Hp) (E' : XK) (f c' : Addr), Bd (lamCx X A outer s H E' scope f c') E' kb → JE T (lamCx X A outer s H E' scope f c') E' body w)
    (hk : kb + 2 ≤ k := by decide) (hdef : defaultsOf params X.env = ([], []) := by rfl)
    (hbind : ∀ (q : Str) (cl : List (Str × Addr)) (pm cv ctv : Value), bindArgs (PySem.W.kla_fn "<lambda>" q params body scope cl pm cv ctv) ⟨[], []⟩ = pure [] := by intros; rfl) (hg : Gl X x := by rfl)
    (hdb : (x == ("__debug__" : Str)) = false := by decide) (hd : (a == ("__debug__" : Str)) = false := by decide) (hcd : (a == ("__classdict__" : Str)) = false := by decide) :
    JE T X E (.Call (.Name x p) [.Lambda params body scope lpos] [] pos) (wOut cls hs w) := by
  obtain ⟨oc, od, dV, kV, doc, pm, an, cdv, ct, osl, rfl, lk, hcg, _, _⟩ := Dg.ex
  have hN0 : ∀ f : Addr, (L2.start Ng [V.ref f])[0]? = some (some (V.ref f)) := fun f => rfl
  refine peI (pe_lamcall (k := kb) (t := fun E' => lift X.K T (rE X.K) E' w) hg hm Dg.kp lk hcg hb Sg hNg hva (out_gives Sg.nd hN0 (mx cdv)) TB hcode hmT hu (B.room.mono hk) L hdef hbind (fun A outer s H E' f c' hr => ?_) hdb hd hcd) fun σ H Q ⟨cc, wd, env, P1, Ex, r, h, xo, kk⟩ => ?_
  · exact hbody A outer s H E' f c' ⟨hr, passes_call (takes_of rfl rfl rfl rfl) fun _ _ _ _ h => h, passes_of rfl, rfl, B.nd⟩
  · refine ⟨r.good.tab, fun H1 eN t1 z => ?_⟩
    have g1 : Good T wd H1 := r.good.extN eN t1 z
    have r1 : Rel X.K T cc wd env σ H1 := r.go (Ord.refl _ _) g1 (Keep.extN eN)
    refine ⟨⟨wd, H1, []⟩, wd, dOnly env, _, _, r1.rebase, h, fun x hx cl dd wd' H' o' g' k' xr τ hl => ?_, fun d env' hd v wd' H' le r' rp => ?_⟩
    · refine mix_out (T := T) hx.1 xr hi (fun xs hp vs rv hz p hp' => ?_) hl em hx.2
      have r2 : Rel X.K T cc wd' env σ H' := r1.go o' g' k'
      obtain ⟨r3, f3⟩ := r2.fresh hp' rv hz
      obtain ⟨wd4, le4, r4, rp4⟩ := r3.frzF f3
      exact kk _ env hp (.ref p) wd4 _ (o'.le.trans le4) r4 rp4
    · exact kk d env hd v wd' H' le (r1.go r'.ord r'.good r'.keep) rp
end
end Pd

namespace Pd
open PySem PySem.Spec PyProof.Rows L2 LamX
mutual
def toR : D → PyData
  | .bl b => .bool b
  | .int i => .int i
  | .str x => .str x
  | .tup xs => .tuple (toRs xs)
  | .lst xs => .list (toRs xs)
  | .dic _ => .dict []
  | _ => .none
def toRs : List D → List PyData
  | [] => []
  | x :: xs => toR x :: toRs xs
end
mutual
def wt : D → Nat
  | .int _ => 401
  | .str x => x.cps.size
  | .tup xs => wts xs
  | .lst xs => wts xs
  | _ => 0
def wts : List D → Nat
  | [] => 0
  | x :: xs => wt x + 1 + wts xs
end
def sho : Nat → D → Bool
  | 0, _ => false
  | n + 1, d => match d with
    | .non => true
    | .bl _ => true
    | .int i => decide (i.natAbs < 10 ^ 120)
    | .str x => PyData.strOk x
    | .tup xs => xs.all (sho n)
    | .lst xs => xs.all (sho n)
    | .dic [] => true
    | _ => false
def shown (d : D) : Str := (toR d).shown
structure ShoOk (n : Nat) (d : PyData) (m : Nat) : Prop where
  ls : d.leavesShort 130 = true
  sh : d.showable = true
  dp : d.depth ≤ n
  wt : d.weight ≤ m
structure ShoOks (n : Nat) (ds : List PyData) (m : Nat) : Prop where
  ls : PyData.leavesShortAll 130 ds = true
  sh : PyData.showableAll ds = true
  dp : PyData.depthAll ds ≤ n
  wt : PyData.weightAll ds ≤ m
set_option exponentiation.threshold 600 in
theorem int_sho {i : Int} (h : i.natAbs < 10 ^ 120) : (PyData.shown (.int i)).length ≤ 130 ∧ i.natAbs.log2 < 400 := by
  have e := int_text_length_le10 (k := 120) (by decide) h
  refine ⟨?_, ?_⟩
  · show (Str.ofString (toString i)).length ≤ 130
    rw [PySem.ofString_length]
    omega
  · by_cases hz : i.natAbs = 0
    · rw [hz]
      decide
    · exact (Nat.log2_lt hz).mpr (Nat.lt_trans h (by decide +kernel))
mutual
theorem sho_ok : ∀ (n : Nat) (d : D), sho n d = true → ShoOk n (toR d) (wt d)
  | 0, d, h => by cases h
  | n + 1, .non, _ => ⟨rfl, rfl, Nat.zero_le _, Nat.le_refl _⟩
  | n + 1, .bl b, _ => ⟨rfl, rfl, Nat.zero_le _, Nat.le_refl _⟩
  | n + 1, .int b, h => by
    have h' : b.natAbs < 10 ^ 120 := of_decide_eq_true h
    obtain ⟨h1, h2⟩ := int_sho h'
    refine ⟨by simpa only [toR, PyData.leavesShort, decide_eq_true_eq] using h1, by simp only [toR, PyData.showable, decide_eq_true_eq]; omega, by simp [toR, PyData.depth], ?_⟩
    simp only [toR, PyData.weight, wt]
    split <;> omega
  | n + 1, .str b, h => by
    have h' : PyData.strOk b = true := h
    refine ⟨PyData.leavesShort_of_canLay0 130 (.str b) (by simpa only [PyData.canLay0] using h') rfl, rfl, Nat.zero_le _, Nat.le_refl _⟩
  | n + 1, .tup xs, h => by
    have h' : xs.all (sho n) = true := h
    have z := shos_ok n xs h'
    exact ⟨by simpa only [toR, PyData.leavesShort] using z.ls, by simpa only [toR, PyData.showable] using z.sh, by simp only [toR, PyData.depth]; have := z.dp; omega, by simpa only [toR, PyData.weight, wt] using z.wt⟩
  | n + 1, .lst xs, h => by
    have h' : xs.all (sho n) = true := h
    have z := shos_ok n xs h'
    exact ⟨by simpa only [toR, PyData.leavesShort] using z.ls, by simpa only [toR, PyData.showable] using z.sh, by simp only [toR, PyData.depth]; have := z.dp; omega, by simpa only [toR, PyData.weight, wt] using z.wt⟩
  | n + 1, .dic [], _ => ⟨rfl, rfl, by simp [toR, PyData.depth, PyData.depthKv], by simp [toR, PyData.weight, PyData.weightKv]⟩
  | n + 1, .dic (_ :: _), h => by cases h
  | n + 1, .scr _, h => by cases h
  | n + 1, .dit _, h => by cases h
  | n + 1, .ins _ _, h => by cases h
  | n + 1, .box _, h => by cases h
  | n + 1, .raw _, h => by cases h
  | n + 1, .cls _, h => by cases h
theorem shos_ok : ∀ (n : Nat) (ds : List D), ds.all (sho n) = true → ShoOks n (toRs ds) (wts ds)
  | n, [], _ => ⟨rfl, rfl, Nat.zero_le _, Nat.le_refl _⟩
  | n, d :: ds, h => by
    rw [List.all_cons, Bool.and_eq_true] at h
    have a := sho_ok n d h.1
    have b := shos_ok n ds h.2
    refine ⟨?_, ?_, ?_, ?_⟩
    · simp only [toRs, PyData.leavesShortAll, a.ls, b.ls, Bool.and_self]
    · simp only [toRs, PyData.showableAll, a.sh, b.sh, Bool.and_self]
    · have := a.dp
      have := b.dp
      simp only [toRs, PyData.depthAll]
      omega
    · have := a.wt
      have := b.wt
      simp only [toRs, PyData.weightAll, wts]
      omega
end
theorem sho_len {n : Nat} {d : D} (h : sho n d = true) (hw : wt d ≤ 100000) : (toR d).shown.length ≤ sizeLine := by
  have z := sho_ok n d h
  have h1 := PyData.shown_le 130 (by decide) (toR d) z.ls
  have h2 := z.wt
  have h3 : (130 + 2) * (toR d).weight ≤ 132 * 100000 := Nat.mul_le_mul (Nat.le_refl _) (Nat.le_trans h2 hw)
  have : sizeLine = 16777216 := by decide
  omega
section
variable {X : Cx} {pins : List (Addr × Obj)} {σ : L2.St} {T : List (Addr × Str)} {wd : Wd} {H : Hp} {s : Shared}
structure Shw (X : Cx) (s : Shared) (u : Value) (d : PyData) : Prop where
  ex : ∃ bs as, Reads s.heap u d as ∧ ReadAtMost s.heap d.depth bs ∧ ReprK X.prog X.w bs s.heap d.depth u d.shown
structure Shws (X : Cx) (s : Shared) (us : List Value) (ds : List PyData) : Prop where
  ex : ∃ bs as, ReadsAll s.heap us ds as ∧ ReadAtMost s.heap (PyData.depthAll ds) bs ∧ ReprAllK X.prog X.w bs s.heap (PyData.depthAll ds) us (PyData.shownAll ds)
theorem Shws.nil : Shws X s [] [] := ⟨[], [], ReadsAll.nil, (fun _ h => nomatch h), ReprAllK.nil⟩
theorem Shws.cons {u : Value} {us : List Value} {d : PyData} {ds : List PyData} (a : Shw X s u d) (b : Shws X s us ds) : Shws X s (u :: us) (d :: ds) := by
  obtain ⟨b1, a1, r1, m1, k1⟩ := a.ex
  obtain ⟨b2, a2, r2, m2, k2⟩ := b.ex
  have l1 : d.depth ≤ PyData.depthAll (d :: ds) := by simp only [PyData.depthAll]; omega
  have l2 : PyData.depthAll ds ≤ PyData.depthAll (d :: ds) := by simp only [PyData.depthAll]; omega
  refine ⟨b1 ++ b2, a1 ++ a2, .cons r1 r2, (m1.mono l1).append (m2.mono l2), ?_⟩
  exact .cons ((k1.more fun b hb => List.mem_append_left _ hb).level_le l1) (k2.more_le (fun b hb => List.mem_append_right _ hb) l2)
theorem Shws.top {us : List Value} {ds : List PyData} (b : Shws X s us ds) {a : Addr} {o : Obj} {n : Nat} (h1 : s.heap.get? a = some o) (h2 : o.cls = .type "list" ∧ o.data = .seq us.toArray n ∨ o.cls = .type "tuple" ∧ o.data = .seq us.toArray n) :
    ∃ bs, a ∉ bs ∧ ReprAllK X.prog X.w bs s.heap (PyData.depthAll ds) us (PyData.shownAll ds) ∧ ReadAtMost s.heap (PyData.depthAll ds) bs := by
  obtain ⟨bs, as, r, m, k⟩ := b.ex
  have key : ∀ {d : PyData}, Reads s.heap (.ref a) d (match d with | .list _ => a :: as | _ => as) → PyData.depthAll ds < d.depth → a ∉ bs := fun {d} r hd => not_mem_of_deeper r hd m
  refine ⟨bs, ?_, k, m⟩
  rcases h2 with ⟨hc, hd⟩ | ⟨hc, hd⟩
  · exact key (d := .list ds) (.list h1 hc hd (by simpa using r)) (by simp only [PyData.depth]; omega)
  · exact key (d := .tuple ds) (.tuple h1 hc hd (by simpa using r)) (by simp only [PyData.depth]; omega)
theorem Shws.list {us : List Value} {ds : List PyData} (b : Shws X s us ds) {a : Addr} {o : Obj} {n : Nat} (h1 : s.heap.get? a = some o) (hc : o.cls = .type "list") (hd : o.data = .seq us.toArray n) : Shw X s (.ref a) (.list ds) := by
  obtain ⟨bs, na, k, m⟩ := b.top h1 (.inl ⟨hc, hd⟩)
  obtain ⟨_, as, r, _, _⟩ := b.ex
  have rd : Reads s.heap (.ref a) (.list ds) (a :: as) := .list h1 hc hd (by simpa using r)
  refine ⟨a :: bs, _, rd, ReadAtMost.cons rd (by simp only [PyData.depth]; omega) m, ?_⟩
  simp only [PyData.depth, PyData.shown]
  cases us with
  | nil =>
    cases r
    simp only [PyData.shownAll, listText_nil]
    exact ReprK.listEmpty h1 hc hd
  | cons x l => exact ReprK.list h1 hc hd na (by simpa using k.length_eq) (fun i y e => k.item i y (by simpa using e))
theorem Shws.tuple {us : List Value} {ds : List PyData} (b : Shws X s us ds) {a : Addr} {o : Obj} {n : Nat} (h1 : s.heap.get? a = some o) (hc : o.cls = .type "tuple") (hd : o.data = .seq us.toArray n) : Shw X s (.ref a) (.tuple ds) := by
  obtain ⟨bs, na, k, m⟩ := b.top h1 (.inr ⟨hc, hd⟩)
  obtain ⟨_, as, r, _, _⟩ := b.ex
  have rd : Reads s.heap (.ref a) (.tuple ds) as := .tuple h1 hc hd (by simpa using r)
  refine ⟨a :: bs, _, rd, ReadAtMost.cons rd (by simp only [PyData.depth]; omega) m, ?_⟩
  simp only [PyData.depth, PyData.shown]
  exact ReprK.tuple h1 hc hd na (by simpa using k)
theorem shw_mem {xs : List D} {t : Str} (h : t ∈ PyData.shownAll (toRs xs)) (hl : (listText (PyData.shownAll (toRs xs))).length ≤ sizeLine ∨ (tupleText (PyData.shownAll (toRs xs))).length ≤ sizeLine) : t.length ≤ sizeLine :=
  hl.elim (fun z => Nat.le_trans (listText_mem_le h) z) fun z => Nat.le_trans (tupleText_mem_le h) z
mutual
theorem rep_shw (I : Inv X pins σ H s) (g : Good T wd H) : ∀ (n : Nat) {v : V} {d : D} {u : Value}, sho n d = true → Rep X.K wd v d → RelV v u → (toR d).shown.length ≤ sizeLine → Shw X s u (toR d)
  | 0, _, _, _, h, _, _, _ => by cases h
  | n + 1, _, _, _, _, .non, r, _ => by
    cases r
    exact ⟨[], _, .none, (fun _ h => nomatch h), by simp only [toR, PyData.shown]; exact .of_is ReprIs.none _ _ _⟩
  | n + 1, _, _, _, _, .bl b, r, _ => by
    cases r
    exact ⟨[], _, .bool b, (fun _ h => nomatch h), by simp only [toR, PyData.shown]; exact .of_is (ReprIs.bool b) _ _ _⟩
  | n + 1, _, .int b, _, h, .int _, r, _ => by
    obtain ⟨t, rfl⟩ := r
    have h' : b.natAbs < 10 ^ 120 := of_decide_eq_true h
    exact ⟨[], _, .int b t, (fun _ h => nomatch h), by simp only [toR, PyData.shown]; exact .of_is (ReprIs.int t (by have := (int_sho h').2; omega)) _ _ _⟩
  | n + 1, _, _, _, _, .str b, r, z => by
    obtain ⟨t, rfl⟩ := r
    exact ⟨[], _, .str b t, (fun _ h => nomatch h), by simp only [toR, PyData.shown]; exact .of_is (ReprIs.str b t (by simpa only [toR, PyData.shown] using z)) _ _ _⟩
  | n + 1, _, _, _, h, .tup hs rs, r, z => by
    obtain rfl := r
    obtain ⟨its, rv, ⟨o, h1, hc, m, hd⟩, _⟩ := I.tuple (sub_sqT g hs)
    simp only [toR, PyData.shown] at z
    exact (reps_shw I g n h rs rv fun t ht => shw_mem ht (.inr z)).tuple h1 hc hd
  | n + 1, _, _, _, h, .lst hs rs, r, z => by
    obtain rfl := r
    obtain ⟨its, rv, ⟨o, m, h1, hc, _, hd⟩, _⟩ := I.list (sub_sqL g hs)
    simp only [toR, PyData.shown] at z
    exact (reps_shw I g n h rs rv fun t ht => shw_mem ht (.inl z)).list h1 hc hd
  | n + 1, _, .dic [], _, h, .dic hs e rs, r, z => by
    rename_i a vs
    obtain rfl := r
    have ev : vs = [] := by simpa using e
    subst ev
    obtain ⟨_, hS, ws, kv, o, es, ep, h1, hx, hd, _, pr, _⟩ := dk_of I.hok (g.sub _ _ hs)
    cases kv
    have ee : es.toList = [] := by
      cases hq : es.toList with
      | nil => rfl
      | cons q l =>
        rw [hq] at pr
        cases pr
    have rd : Reads s.heap (.ref a) (.dict []) ([a] ++ []) := .dict (kvs := []) (as := []) (bs := []) h1 hx.1 hd (by rw [ee]; exact .nil) (by rw [ee]; exact .nil)
    refine ⟨[a], _, rd, ReadAtMost.cons (n := 0) rd (Nat.zero_le _) (fun _ h => nomatch h), ?_⟩
    simp only [toR, PyData.depth, PyData.shown, PyData.shownKv, PyData.depthKv]
    exact ReprK.dict h1 hx.1 hd hS (fun h => nomatch h) (by rw [ee]; exact .nil)
  | n + 1, _, .dic (_ :: _), _, h, .dic _ _ _, _, _ => by cases h
  | n + 1, _, _, _, h, .scr _, _, _ => by cases h
  | n + 1, _, _, _, h, .dit _ _ _, _, _ => by cases h
  | n + 1, _, _, _, h, .ins _ _ _, _, _ => by cases h
  | n + 1, _, _, _, h, .box _, _, _ => by cases h
  | n + 1, _, _, _, h, .raw _, _, _ => by cases h
  | n + 1, _, _, _, h, .cls _, _, _ => by cases h
theorem reps_shw (I : Inv X pins σ H s) (g : Good T wd H) : ∀ (n : Nat) {vs : List V} {ds : List D} {us : List Value}, ds.all (sho n) = true → Reps X.K wd vs ds → Vals vs us → (∀ t ∈ PyData.shownAll (toRs ds), t.length ≤ sizeLine) → Shws X s us (toRs ds)
  | n, _, _, _, _, .nil, r, _ => by
    cases r
    exact Shws.nil
  | n, _, _, _, h, .cons a b, .cons ra rb, z => by
    rw [List.all_cons, Bool.and_eq_true] at h
    exact .cons (rep_shw I g n h.1 a ra (z _ List.mem_cons_self)) (reps_shw I g n h.2 b rb fun t ht => z t (List.mem_cons_of_mem _ ht))
end
theorem cr_shw {X : Cx} (gd : X.A.guards = some []) (hu : X.A.units + 64 < cLine) : CallR X (.builtin "repr") (fun xs H Q => ∃ (p : Addr) (T : List (Addr × Str)) (wd : Wd) (vs : List V) (ds : List D), xs = [.ref p] ∧ Good T wd H ∧ Reps X.K wd vs ds ∧
    ((SqL X.K H p vs ∧ sho 30 (.lst ds) = true ∧ wt (.lst ds) ≤ 100000 ∧ Q (.str (shown (.lst ds))) H) ∨ (SqT X.K H p vs ∧ sho 30 (.tup ds) = true ∧ wt (.tup ds) ≤ 100000 ∧ Q (.str (shown (.tup ds))) H))) := by
  intro pins s σ H xs us Q I r h
  obtain ⟨p, T, wd, vs, ds, rfl, g, rs, h⟩ := h
  obtain ⟨u, rfl, rfl⟩ := vals1 r
  rcases h with ⟨hs, ho, hw, q⟩ | ⟨hs, ho, hw, q⟩
  · obtain ⟨its, rv, ⟨o, m, h1, hc, _, hd⟩, _⟩ := I.list hs
    have z := sho_len ho hw
    have dp := (sho_ok 30 _ ho).dp
    have fin : ∀ (h' : Heap) (u tk : Tok), (∀ b o, s.heap.get? b = some o → h'.get? b = some o) → EP X pins σ Q (.str (shown (.lst ds)) u) { s with heap := h', toks := tk } := fun h' u tk hk => ⟨.str _, H, I.kept hk, ⟨_, rfl⟩, q⟩
    unfold shown at fin
    simp only [toR, PyData.shown] at z fin
    simp only [toR, PyData.depth] at dp
    have ho' : ds.all (sho 29) = true := ho
    have sw := reps_shw I g 29 ho' rs rv fun t ht => shw_mem ht (.inl z)
    obtain ⟨bs, na, kk, m⟩ := sw.top h1 (.inl ⟨hc, hd⟩)
    refine call_repr_slot (by omega) ⟨o, h1, hc⟩ F.slot_list_repr.toG ?_
    cases its with
    | nil =>
      obtain ⟨_, _, rr, _⟩ := sw.ex
      cases hds : toRs ds with
      | cons _ _ => rw [hds] at rr; cases rr
      | nil =>
        rw [hds] at fin
        simp only [PyData.shownAll, listText_nil] at fin
        exact call_list_repr_empty ⟨o, h1, hc⟩ h1 hd ⟨_, _, rfl, fin s.heap _ _ fun _ _ e => e⟩
    | cons x l => exact call_list_reprK h1 hc hd na (by simpa using kk.length_eq) (fun i y e => kk.item i y (by simpa using e)) gd (fun b _ => Clear.nil b) (by show X.A.units + 1 + _ < cLine; omega) (fun _ _ e => e) (fun h' u tk hk => ⟨_, _, rfl, fin h' u tk hk⟩) z
  · obtain ⟨its, rv, ⟨o, h1, hc, m, hd⟩, _⟩ := I.tuple hs
    have z := sho_len ho hw
    have dp := (sho_ok 30 _ ho).dp
    have fin : ∀ (h' : Heap) (u tk : Tok), (∀ b o, s.heap.get? b = some o → h'.get? b = some o) → EP X pins σ Q (.str (shown (.tup ds)) u) { s with heap := h', toks := tk } := fun h' u tk hk => ⟨.str _, H, I.kept hk, ⟨_, rfl⟩, q⟩
    unfold shown at fin
    simp only [toR, PyData.shown] at z fin
    simp only [toR, PyData.depth] at dp
    have ho' : ds.all (sho 29) = true := ho
    have sw := reps_shw I g 29 ho' rs rv fun t ht => shw_mem ht (.inr z)
    obtain ⟨bs, na, kk, m⟩ := sw.top h1 (.inr ⟨hc, hd⟩)
    refine call_repr_slot (by omega) ⟨o, h1, hc⟩ F.slot_tuple_repr ?_
    exact call_tuple_reprK h1 hc hd na (by simpa using kk) gd (fun b _ => Clear.nil b) (by show X.A.units + 1 + _ < cLine; omega) (fun _ _ e => e) (fun h' u tk hk => ⟨_, _, rfl, fin h' u tk hk⟩) z
end
structure FnG (P : Program) (w : World) (K : PySem.W.Frag) (mg : Str → Option Value) (base : Heap) (k : Nat) (f : Addr) (fd : FuncData) (ps : List Str) (sp : Sp) : Prop where
  len : ∀ vs H Q E, sp vs H Q E → vs.length = ps.length
  go : ∀ (A : Around) (outer : List Env) (s : Shared) (H : Hp) (args : Args) (us : List Value) (vs : List V) (Q : VK) (E : XK), A.guards = some [] → Room k A → Env0 P w K mg base A outer s H → BindsTo s fd args (ps.zip us) → Vals vs us →
    sp vs H Q E → codeAny (model P w) A (.call (.ref f) args) (CR (L2.CX P w) outer P w H s Q E) s
theorem FnG.of {P : Program} {w : World} {K : PySem.W.Frag} {mg : Str → Option Value} {base : Heap} {k : Nat} {f : Addr} {fd : FuncData} {ps : List Str} {sp : Sp} (F : FnOk P w K mg base (L2.CX P w) k f fd ps sp) : FnG P w K mg base k f fd ps sp :=
  ⟨F.len, fun A outer s H args us vs Q E _ hr e0 hb r h => F.run A outer s H args us vs Q E hr e0 hb r h⟩
structure DefG (P : Program) (w : World) (K : PySem.W.Frag) (mg : Str → Option Value) (base : Heap) (T : List (Addr × Str)) (x : Str) (k : Nat) (ps : List Str) (F : Fn) : Prop where
  ex : ∃ (f : Addr) (fd : FuncData), mg x = some (.ref f) ∧ PySem.W.keepIn K (.ref f) = true ∧ Binds K fd ps [] ∧ FnG P w K mg base k f fd ps (spec K T F) ∧ ∃ oc od osl, K.lookup f = some ⟨oc, od, .func fd, osl⟩
section
variable {X : Cx} {T : List (Addr × Str)} {E : XK} {k : Nat}
theorem run_fnG {pins : List (Addr × Obj)} {σ : L2.St} {H : Hp} {s : Shared} {Q : VK} {us : List Value} {vs : List V} {f : Addr} {fd : FuncData} {ps : List Str} {sp : Sp} (F : FnG X.prog X.w X.K X.mg X.base k f fd ps sp) (gd : X.A.guards = some []) (hr : Room k X.A) (hb : Binds X.K fd ps [])
    (hx : Passes (L2.CX X.prog X.w) X E) (I : Inv X pins σ H s) (r : Vals vs us) (h : sp vs H Q E) : wpAny (model X.prog X.w) X.A (call (.ref f) us) (EP X pins σ Q) X.xe s := by
  have hl : us.length = ps.length := r.length.symm.trans (F.len _ _ _ _ h)
  have hbi := hb s us I.kIn (by rw [List.append_nil]; exact hl)
  rw [List.append_nil] at hbi
  refine wpAny_call (codeAny_mono (F.go X.A X.stack s H ⟨us, []⟩ us vs Q E gd hr I.env0 hbi r h) fun z s' hq => ?_)
  rcases z with e | fl
  · exact hx pins σ H s e s' I hq
  · cases fl <;> first | exact I.after hq | exact False.elim hq
theorem je_callG {x : Str} {ps : List Str} {F : Fn} {e : Expr} {es : List Expr} {a : W (List D)} {p pos : Pos} {j : Nat} (B : Bd X E k) (gd : X.A.guards = some []) (G : DefG X.prog X.w X.K X.mg X.base T x j ps F) (ha : JA T X E (e :: es) a) (hj : j ≤ k := by decide) (hg : Gl X x := by rfl)
    (hdb : (x == ("__debug__" : Str)) = false := by decide) (he : starEach (e :: es) X.env = (false, eval e X.env) :: starEach es X.env := by rfl) (hpl : (backTo pos (starEach es X.env)).any (·.1) = false := by rfl) : JE T X E (.Call (.Name x p) (e :: es) [] pos) (wCall F a) := by
  obtain ⟨f, fd, g1, g2, g3, g4, _⟩ := G.ex
  have key : PE X (.Call (.Name x p) (e :: es) [] pos) (tCall (spec X.K T F) [] E (lift X.K T (rA X.K) E a)) := ⟨fun pins s σ H Q I h => by
    refine wpAny_Call_Name_kw (ld_glob I hg g1 ?_ hdb)
    refine PySem.W.callWith_K (h₀ := X.base) I.ok.mod.kin g2 (thn (ha.run pos pins s σ H _ I h) fun us s1 ⟨vs, H1, I1, r, q⟩ => ⟨I1.kIn, ?_⟩) he hpl
    have q : spec X.K T F (vs ++ []) H1 Q E := q
    rw [List.append_nil] at q
    exact run_fnG g4 gd (B.room.mono hj) g3 B.pass I1 r q⟩
  exact peI key fun σ H Q h => lift_call h
end
end Pd

namespace Pd
open PySem PySem.Spec PyProof.Rows L2 LamX PySem.W
section
variable {prog : Program} {w : World} {A : Around} {R : Result → Shared → Prop} {hp : Heap} {g : Array GenState} {d : Drawn} {t : Nat} {os : OsState} {K : Frag} {C : Addr} {B i newId : String} {bmB : List Value} {f : Str}
end
section
variable {X : Cx} {T : List (Addr × Str)} {E : XK} {k : Nat} {C : Addr} {B i newId : String} {bmB : List Value} {f : Str}
end
end Pd

namespace Pd
open PySem PySem.Spec PyProof.Rows L2 LamX
theorem hasD_of {fa : List He.Fa} {fn : List He.DefD} {K : PySem.W.Frag} {h : Heap} {mg : Str → Option Value} (X : K.In h) (G : h.Ns mainGlobals mg) (c : He.SaysD fa fn K) {x : Str} {st : Stmt} (i j : Nat)
    (hi : fa[i]? = some (.glo x)) (hj : fn[j]? = some ⟨(x, none), x, x, defArgs st, defBody st, defScope st, [], []⟩) : HasD K mg x st := by
  obtain ⟨fd, F⟩ := c.def_ j hj
  exact ⟨He.ga K x, fd, F, He.glo_ok X G (c.fact i hi)⟩
theorem cx_no {P : Program} {w : World} {outer : List Env} {H : Hp} {s : Shared} {e : Value} {s' : Shared} (h : L2.CX P w outer H s (fun _ _ _ => False) e s') : False := by
  obtain ⟨_, _, _, _, _, _, _, _, _, _, _, _, z⟩ := h
  exact z
end Pd

namespace Pd
open PySem PySem.Spec PyProof.Rows L2 LamX
section
variable {P : Program} {w : World} {K : PySem.W.Frag} {mg mb : Str → Option Value} {k : Nat} {fa a : Addr} {cs : List (Addr × Addr)} {fd : FuncData} {x : Str} {sp : Sp} {s : Shared} {us : List Value}
structure Top0 (K : PySem.W.Frag) (mg mb : Str → Option Value) (cs : List (Addr × Addr)) (s : Shared) : Prop where
  kin : K.In s.heap
  glo : s.heap.Ns mainGlobals mg
  blt : s.heap.Ns builtinsNs mb
  bbb : ∀ y : Str, y ≠ "__name__" → mb y = bootBuiltins y
  lim : s.heap.NoLimit
  gen : s.gens = #[]
  tab : ∀ p ∈ cs, s.heap.get? p.2 = some { cls := .none, data := .fields #[] }
  out : ∀ p ∈ cs, K.lookup p.2 = none
  hdr : ∀ p ∈ cs, PySem.W.CodeHd s.heap p.1 p.2
  bmn : ∃ (bm : Addr) (ob : Obj), mg "__builtins__" = some (.ref bm) ∧ bm ≠ builtinsNs ∧ s.heap.get? bm = some ob ∧ ob.cls = .type "module" ∧ ob.dict = some builtinsNs ∧ ob.data = .plain
structure Start0 (K : PySem.W.Frag) (cs : List (Addr × Addr)) (a : Addr) (H : Hp) : Prop where
  t : ∀ p ∈ cs, H p.2 = some (.tbl #[])
  o : ∀ b u, H b = some u → (b ∈ cs.map (·.2) ∧ u = .tbl #[]) ∨ (b = a ∧ K.lookup a = none ∧ ∃ ob xs, u = .frz ob (.lst xs))
theorem left_behind {H G : Hp} {h' : Heap} (Z : Top0 K mg mb cs s) (S : Start0 K cs a H) (hok : HOk P w H s.heap) (un : Un (frs []) [] H G s.heap h') (ok : HOk P w G h') : OldK s.heap h' := by
  have table : ∀ p ∈ cs, ∃ more : Array Value, h'.get? p.2 = some { cls := .none, data := .fields more } := fun p hp => by
    obtain ⟨_, known⟩ := un.tbls p.2 #[] (S.t p hp)
    exact ⟨_, ok _ _ known⟩
  have other : ∀ b o, (¬ ∃ p ∈ cs, p.2 = b) → s.heap.get? b = some o → h'.get? b = some o := fun b o no e => by
    cases known : H b with
    | none => exact un.keep b o e known (by simp [frs]) (by simp)
    | some u =>
      rcases S.o b u known with ⟨hb, _⟩ | ⟨_, _, ob, xs, rfl⟩
      · exact (no (by simpa using hb)).elim
      · have before := (hok b _ known).1
        have after := (ok b _ (un.frzs b ob _ known)).1
        exact Option.some.inj (e.symm.trans before) ▸ after
  constructor
  · intro b o e
    by_cases is : ∃ p ∈ cs, p.2 = b
    · obtain ⟨p, hp, rfl⟩ := is
      obtain ⟨more, now⟩ := table p hp
      obtain rfl := Option.some.inj ((Z.tab p hp).symm.trans e)
      exact .inr (.inl ⟨((Z.hdr p hp).tab e).isCodeTable, rfl, #[], more, rfl, by simpa using now⟩)
    · exact .inl (other b o is e)
  · intro b o e
    by_cases is : ∃ p ∈ cs, p.2 = b
    · obtain ⟨p, hp, rfl⟩ := is
      obtain ⟨_, now⟩ := table p hp
      exact ⟨_, now⟩
    · exact ⟨o, other b o is e⟩
theorem core_callG (Z : Top0 K mg mb cs s) (ha : s.heap.get? a = some { cls := .type "list", data := .seq us.toArray }) (hr : Room k callerA) (F : ∀ base : Heap, K.In base → base.Ns mainGlobals mg → (∀ p ∈ cs, TabB base mg p.1 p.2) → FnG P w K mg base k fa fd [x] sp)
    (hbind : ∀ (s : Shared) (u : Value), BindsTo s fd ⟨[u], []⟩ [(x, u)]) {H : Hp} (S : Start0 K cs a H) (hok : HOk P w H s.heap) (hsp : sp [.ref a] H (fun v _ => v = .bl true) fun _ _ _ => False) :
    codeAny (model P w) callerA (.call (.ref fa) ⟨[.ref a], []⟩) (fun r s' => r = .ok (.ret (.bool true)) ∧ OldK s.heap s'.heap ∧ s'.os = s.os ∧ AllBare s'.gens) s := by
  have tabAt : ∀ {b : Addr}, b ∈ cs.map (·.2) → s.heap.get? b = some { cls := .none, data := .fields #[] } := fun {b} hb => by
    obtain ⟨p, hp, rfl⟩ := List.mem_map.mp hb
    exact Z.tab p hp
  have free : ∀ {b : Addr} {o : Obj}, s.heap.get? b = some o → (∀ xs n, o.data ≠ .seq xs n) → o.data ≠ .fields #[] → H b = none := fun {b o} e h1 h2 => by
    cases q : H b with
    | none => rfl
    | some u =>
      rcases S.o b u q with ⟨hb, _⟩ | ⟨rfl, _⟩
      · have z := (tabAt hb).symm.trans e
        cases z
        exact absurd rfl h2
      · have z := ha.symm.trans e
        cases z
        exact absurd rfl (h1 _ _)
  have base : ∀ {b : Addr} {o : Obj}, s.heap.get? b = some o → (∀ xs n, o.data ≠ .seq xs n) → o.data ≠ .fields #[] → (hidT s.heap H).get? b = some o := fun e h1 h2 => hidT_get e (free e h1 h2)
  have nsB : ∀ {b : Addr} {m : Str → Option Value}, s.heap.Ns b m → (hidT s.heap H).Ns b m := fun {b m} ⟨o, es, ep, e, dd, r⟩ =>
    ⟨o, es, ep, base e (fun xs n z => by rw [dd] at z; cases z) (fun z => by rw [dd] at z; cases z), dd, r⟩
  have kB : K.In (hidT s.heap H) := fun b o e => hidT_get (Z.kin b o e) (by
    cases q : H b with
    | none => rfl
    | some u =>
      rcases S.o b u q with ⟨hb, _⟩ | ⟨rfl, hk, _⟩
      · obtain ⟨p, hp, rfl⟩ := List.mem_map.mp hb
        rw [Z.out p hp] at e
        cases e
      · rw [hk] at e
        cases e)
  have mB : L2.Mod K mg (hidT s.heap H) := by
    obtain ⟨mc, h1, h2⟩ := Z.lim
    exact ⟨kB, nsB Z.glo, ⟨mb, nsB Z.blt, Z.bbb⟩, ⟨mc, nsB h1, h2⟩⟩
  have tB : ∀ p ∈ cs, TabB (hidT s.heap H) mg p.1 p.2 := fun p hp => by
    refine ⟨?_, ?_, fun z => ?_⟩
    · obtain ⟨o, vs, file, tf, fl, tg, inF, tx, tt, e1, c1, c2, c3, c4⟩ := Z.hdr p hp
      exact ⟨o, vs, file, tf, fl, tg, inF, tx, tt, base e1 (fun xs n z => by rw [c2] at z; cases z) (fun z => by rw [c2] at z; cases z; simp at c3), c1, c2, c3, c4⟩
    · obtain ⟨bm, ob, b1, b2, b3, b4, b5, b6⟩ := Z.bmn
      refine ⟨bm, ob, b1, b2, fun q => ?_, fun q => ?_, base b3 (fun xs n z => by rw [b6] at z; cases z) (fun z => by rw [b6] at z; cases z), b4, b5, b6⟩
      · obtain ⟨o, es, ep, e, dd, _⟩ := Z.glo
        rw [← q, b3] at e
        cases e
        rw [b6] at dd
        cases dd
      · rw [q, Z.tab p hp] at b3
        cases b3
        cases b6
    · obtain ⟨o, es, ep, e, dd, _⟩ := Z.glo
      rw [z, Z.tab p hp] at e
      cases e
      cases dd
  have e0 : Env0 P w K mg (hidT s.heap H) callerA [] s H := by
    refine ⟨rfl, mB, fun b o e => of_hidT e, Nat.le_of_eq (hidT_size _ _), trivial, fun b hb => ?_, hok, .of_eq Z.gen⟩
    cases (show b ∈ ([] : List Addr) from hb)
  refine codeAny_mono ((F _ kB (nsB Z.glo) tB).go callerA [] s H ⟨[.ref a], []⟩ [.ref a] [.ref a] _ _ rfl hr e0 (hbind s (.ref a)) (.cons rfl .nil) hsp) fun r s' h => ?_
  rcases r with e | fl
  · exact (cx_no h).elim
  cases fl with
  | ret u =>
    obtain ⟨v, H', os, bare, un, hok', rv, q⟩ := h
    have q : v = .bl true := q
    subst q
    obtain rfl : u = Value.bool true := rv
    exact ⟨rfl, left_behind Z S hok un hok', os, bare⟩
  | _ => exact False.elim h
theorem law_callG {ns : List Int} (Z : Top0 K mg mb cs s) (ha : s.heap.get? a = some { cls := .type "list", data := .seq us.toArray }) (hi : IntsAre us ns) (hl : ns.length ≤ sizeLine) (hr : Room k callerA)
    (F : ∀ base : Heap, K.In base → base.Ns mainGlobals mg → (∀ p ∈ cs, TabB base mg p.1 p.2) → FnG P w K mg base k fa fd [x] sp) (hbind : ∀ (s : Shared) (u : Value), BindsTo s fd ⟨[u], []⟩ [(x, u)])
    (hsp : ∀ H : Hp, Start0 K cs a H → SqL K H a (ns.map V.int) → sp [.ref a] H (fun v _ => v = .bl true) fun _ _ _ => False) :
    codeAny (model P w) callerA (.call (.ref fa) ⟨[.ref a], []⟩) (fun r s' => r = .ok (.ret (.bool true)) ∧ OldK s.heap s'.heap ∧ s'.os = s.os ∧ AllBare s'.gens) s := by
  have rv := vals_ints hi
  have aT : a ∉ cs.map (·.2) := fun z => by
    obtain ⟨p, hp, e⟩ := List.mem_map.mp z
    have q := Z.tab p hp
    rw [e, ha] at q
    cases q
  have inT : ∀ {p : Addr × Addr}, p ∈ cs → p.2 ∈ cs.map (·.2) := fun hp => List.mem_map_of_mem hp
  cases hk : K.lookup a with
  | some o =>
    have e := Z.kin a o hk
    rw [ha] at e
    cases e
    have S : Start0 K cs a (fun b => if b ∈ cs.map (·.2) then some (.tbl #[]) else none) := by
      refine ⟨fun p hp => if_pos (inT hp), fun b u q => ?_⟩
      split at q
      · cases q
        exact .inl ⟨by assumption, rfl⟩
      · cases q
    refine core_callG Z ha hr F hbind S (fun b u q => ?_) (hsp _ S (.inr ⟨_, us.toArray, _, hk, rfl, rfl, rfl, ?_, by simpa using rv⟩))
    · rcases S.o b u q with ⟨hb, rfl⟩ | ⟨_, _, ob, xs, rfl⟩
      · obtain ⟨p, hp, rfl⟩ := List.mem_map.mp hb
        exact Z.tab p hp
      · skip
        split at q <;> cases q
    · rw [List.size_toArray, hi.length]
      exact hl
  | none =>
    have S : Start0 K cs a (fun b => if b = a then some (.frz { cls := .type "list", data := .seq us.toArray } (.lst (ns.map V.int))) else if b ∈ cs.map (·.2) then some (.tbl #[]) else none) := by
      refine ⟨fun p hp => ?_, fun b u q => ?_⟩
      · have ne : p.2 ≠ a := fun z => aT (z ▸ inT hp)
        exact (if_neg ne).trans (if_pos (inT hp))
      · skip
        split at q
        · cases q
          exact .inr ⟨by assumption, hk, _, _, rfl⟩
        · split at q
          · cases q
            exact .inl ⟨by assumption, rfl⟩
          · cases q
    refine core_callG Z ha hr F hbind S (fun b u q => ?_) (hsp _ S (.inl (.inr ⟨_, if_pos rfl⟩)))
    split at q
    · rename_i e
      cases q
      subst e
      exact ⟨ha, by rw [List.length_map]; exact hl, us, _, rv, ha⟩
    · split at q
      · rename_i hb
        cases q
        obtain ⟨p, hp, rfl⟩ := List.mem_map.mp hb
        exact Z.tab p hp
      · cases q
end
def lamNm (x : Str) : Str := x ++ ".<locals>." ++ "<lambda>"
structure LamT (K : PySem.W.Frag) (mg : Str → Option Value) (base : Heap) (T : List (Addr × Str)) (x : Str) : Prop where
  tb : TabB base mg (He.codeOf K (x, none)) (He.cT K (x, none)).2
  mem : ((He.cT K (x, none)).2, lamNm x) ∈ T
  uni : ∀ p ∈ T, p.1 = (He.cT K (x, none)).2 → p.2 = lamNm x
section
variable {P : Program} {w : World} {K : PySem.W.Frag} {mg : Str → Option Value} {base : Heap} {T : List (Addr × Str)}
theorem defG_ok {x : Str} {ag : Arguments} {body : List Stmt} {scope : Scope} {fd : FuncData} {N ps : List Str} {k : Nat} {F : Fn} (D : FunD K x x ag body scope [] [] (He.ga K x) fd) (S : FnScope N ps scope) (gm : mg x = some (.ref (He.ga K x))) (bn : Binds K fd ps [])
    (len : ∀ ds Q Ex, F ds Q Ex → ds.length = ps.length)
    (hd : ∀ (A : Around) (outer : List Env) (s : Shared) (H : Hp) (E : XK), A.guards = some [] → Bd (cxOf (L2.CX P w) P w K mg base N x scope (He.ga K x) (.ref (He.codeOf K (x, none))) A outer s H E) E k → Takes (cxOf (L2.CX P w) P w K mg base N x scope (He.ga K x) (.ref (He.codeOf K (x, none))) A outer s H E) (fun cls d _ H => E cls d H) →
      ∃ wb, JSs T (cxOf (L2.CX P w) P w K mg base N x scope (He.ga K x) (.ref (He.codeOf K (x, none))) A outer s H E) E body wb ∧ ∀ ds Q Ex, F ds Q Ex → wb (dEnds Q Ex) (startE N ds)) : DefG P w K mg base T x (k + 1) ps F := by
  obtain ⟨oc, od, dV, kV, doc, pm, an, cdv, ct, osl, rfl, lk, hcd, _, _⟩ := D.ex
  obtain ⟨c, rfl⟩ := He.codeIn_ref hcd
  have ec : He.codeOf K (x, none) = c := He.codeOf_eq (p := (x, none)) lk rfl
  subst ec
  have ln : ∀ (vs : List V) (H : Hp) (Q : VK) (E : XK), spec K T F vs H Q E → vs.length = ps.length := fun vs H Q E h => by
    obtain ⟨wd, ds, P, Ex, _, r, h, _⟩ := h
    rw [r.length]
    exact len _ _ _ h
  refine ⟨He.ga K x, _, gm, D.kp, bn, ⟨ln, fun A outer s H args us vs Q E gd hr e0 hb r h => ?_⟩, ⟨_, _, _, lk⟩⟩
  refine run_ofS lk hcd S hr e0 hb r (ln _ _ _ _ h) fun hr' => ?_
  obtain ⟨wd, ds, P1, Ex, g, r, h, xo, kk⟩ := h
  have tk : Takes (cxOf (L2.CX P w) P w K mg base N x scope (He.ga K x) (.ref (He.codeOf K (x, none))) A outer s H E) (fun cls d _ H => E cls d H) := takes_of rfl rfl rfl rfl
  have B : Bd (cxOf (L2.CX P w) P w K mg base N x scope (He.ga K x) (.ref (He.codeOf K (x, none))) A outer s H E) E k := ⟨hr', passes_call tk fun _ _ _ _ h => h, passes_of rfl, rfl, S.nd⟩
  obtain ⟨wb, hj, hw⟩ := hd A outer s H E gd B tk
  refine ⟨_, hj, ⟨wd, H, []⟩, wd, startE N ds, dEnds P1 Ex, rel_start g r, hw ds P1 Ex h, ⟨xo, fun env' hn σ' wd' H' le r' => ?_, fun d hd v wd' H' o' g' k' rp => kk d hd v wd' H' o' g' k' rp, fun _ z => z.elim, fun _ z => z.elim⟩⟩
  exact kk .non hn .non wd' H' r'.ord r'.good r'.keep .non
end
abbrev IniV : Type := Option (Str × Str × Arguments × FuncBody × Scope × Addr × Value × Addr)
structure IniD where
  C : Str
  st : Stmt
def iniA (K : PySem.W.Frag) (C : Str) : Addr := He.ma K (He.ga K C) "__init__"
def iniObs (K : PySem.W.Frag) (C : Str) : IniV := match K.lookup (iniA K C) with
  | some ⟨_, _, .func fd, _⟩ => some (fd.name, fd.qualname, fd.params, fd.body, fd.scope, fd.globals, fd.defaults, fd.builtins)
  | _ => none
def IniD.val (d : IniD) : IniV := some ("__init__", d.C ++ ".__init__", defArgs d.st, .stmts (defBody d.st), defScope d.st, mainGlobals, .none, builtinsNs)
structure SaysZ (fa : List He.Fa) (fn : List He.DefD) (fb : List He5.DefA) (xi : List IniD) (tf : List Str) (ex : PySem.W.Frag → Bool) (h : Heap) (K : PySem.W.Frag) : Prop where
  d : He.SaysD fa fn K
  a : He5.SaysA [] fb K
  i : xi.map (fun d => iniObs K d.C) = xi.map IniD.val
  x : ex K = true
  nd : (tf.map fun p => (He.cT K (p, none)).2).Nodup
  hd : ∀ p ∈ tf, PySem.W.codeHdIn K (He.cT K (p, none)).1 (He.cT K (p, none)).2 = true
  out : ∀ p ∈ tf, K.lookup (He.cT K (p, none)).2 = none
  emp : ∀ p ∈ tf, h.get? (He.cT K (p, none)).2 = some { cls := .none, data := .fields #[] }
abbrev AlZ : Type := He.AlD × He.AlD × List IniV × Bool
def frZ (g : Addr → Option Obj) (n : Nat) : PySem.W.Frag := He.frT g (He5.asA g n)
def obsZ (n : Nat) (fa : List He.Fa) (fn : List He.DefD) (fb : List He5.DefA) (xi : List IniD) (tf : List Str) (ex : PySem.W.Frag → Bool) (g : Addr → Option Obj) : AlZ :=
  (He.obsD fa fn (frZ g n), He5.obsA [] fb (frZ g n), xi.map (fun d => iniObs (frZ g n) d.C), ex (frZ g n) && (decide ((tf.map fun p => (He.cT (frZ g n) (p, none)).2).Nodup) && He.tabsB g (tf.map fun p => (p, none)) (frZ g n)))
def valZ (fn : List He.DefD) (fb : List He5.DefA) (xi : List IniD) : AlZ := (He.valD fn, He5.valA fb, xi.map IniD.val, true)
theorem saysZ_of {n : Nat} {fa : List He.Fa} {fn : List He.DefD} {fb : List He5.DefA} {xi : List IniD} {tf : List Str} {ex : PySem.W.Frag → Bool} {h : Heap} (e : obsZ n fa fn fb xi tf ex h.get? = valZ fn fb xi) : SaysZ fa fn fb xi tf ex h (frZ h.get? n) := by
  have e4 : (ex (frZ h.get? n) && (decide ((tf.map fun p => (He.cT (frZ h.get? n) (p, none)).2).Nodup) && He.tabsB h.get? (tf.map fun p => (p, none)) (frZ h.get? n))) = true := congrArg (fun z : AlZ => z.2.2.2) e
  obtain ⟨h1, h2⟩ := He.ba e4
  obtain ⟨h2, h3⟩ := He.ba h2
  have key : ∀ p ∈ tf, PySem.W.codeHdIn (frZ h.get? n) (He.cT (frZ h.get? n) (p, none)).1 (He.cT (frZ h.get? n) (p, none)).2 = true ∧ ∃ o, h.get? (He.cT (frZ h.get? n) (p, none)).2 = some o ∧ He.emptyTab o = true := fun p hp => by
    obtain ⟨z1, z2⟩ := He.ba (List.all_eq_true.mp h3 (p, none) (List.mem_map_of_mem hp))
    refine ⟨z1, ?_⟩
    cases q : h.get? (He.cT (frZ h.get? n) (p, none)).2 with
    | none =>
      rw [q] at z2
      cases z2
    | some o =>
      rw [q] at z2
      exact ⟨o, rfl, z2⟩
  refine ⟨congrArg (fun z : AlZ => z.1) e, congrArg (fun z : AlZ => z.2.1) e, congrArg (fun z : AlZ => z.2.2.1) e, h1, of_decide_eq_true h2, fun p hp => (key p hp).1, fun p hp => ?_, fun p hp => ?_⟩
  · obtain ⟨_, o, q, z⟩ := key p hp
    exact He.frT_none q z
  · obtain ⟨_, o, q, z⟩ := key p hp
    rw [q, He.emptyTab_eq z]
def hookZ (n : Nat) (fa : List He.Fa) (fn : List He.DefD) (fb : List He5.DefA) (xi : List IniD) (tf : List Str) (ex : PySem.W.Frag → Bool) : PySem.W.Hook where
  α := AlZ
  obs := fun s => obsZ n fa fn fb xi tf ex s.heap.get?
  val := fun _ => valZ fn fb xi
  says := fun _ h => ∃ K : PySem.W.Frag, K.In h ∧ SaysZ fa fn fb xi tf ex h K
  of := fun _ _ e => ⟨_, He.frT_in, saysZ_of e⟩
  keeps := fun _ _ _ ⟨K, hK, c⟩ k => ⟨K, PySem.W.Frag.In.keeps hK k, ⟨c.d, c.a, c.i, c.x, c.nd, c.hd, c.out, fun p hp => k _ _ (c.emp p hp)⟩⟩
def tabT (K : PySem.W.Frag) (tf : List Str) : List (Addr × Str) := tf.map fun p => ((He.cT K (p, none)).2, lamNm p)
theorem lamT_of {K : PySem.W.Frag} {mg : Str → Option Value} {base : Heap} {tf : List Str} (nd : (tf.map fun p => (He.cT K (p, none)).2).Nodup) (tb : ∀ p ∈ tf, TabB base mg (He.codeOf K (p, none)) (He.cT K (p, none)).2) {x : Str} (hx : x ∈ tf) : LamT K mg base (tabT K tf) x := by
  refine ⟨tb x hx, List.mem_map.mpr ⟨x, hx, rfl⟩, fun p hp e => ?_⟩
  obtain ⟨y, hy, rfl⟩ := List.mem_map.mp hp
  have e : (He.cT K (y, none)).2 = (He.cT K (x, none)).2 := e
  have key : ∀ {l : List Str}, (l.map fun p => (He.cT K (p, none)).2).Nodup → y ∈ l → x ∈ l → y = x := fun {l} => by
    induction l with
    | nil => intro _ h; cases h
    | cons a l ih =>
      intro nd h1 h2
      rw [List.map_cons, List.nodup_cons] at nd
      rcases List.mem_cons.mp h1 with z1 | z1
      · rcases List.mem_cons.mp h2 with z2 | z2
        · exact z1.trans z2.symm
        · exact absurd (show (He.cT K (a, none)).2 ∈ l.map (fun p => (He.cT K (p, none)).2) from List.mem_map.mpr ⟨x, z2, by rw [← z1]; exact e.symm⟩) nd.1
      · rcases List.mem_cons.mp h2 with z2 | z2
        · exact absurd (show (He.cT K (a, none)).2 ∈ l.map (fun p => (He.cT K (p, none)).2) from List.mem_map.mpr ⟨y, z1, by rw [← z2]; exact e⟩) nd.1
        · exact ih nd.2 z1 z2
  rw [key nd hy hx]
theorem good_startT {K : PySem.W.Frag} {H : Hp} {a : Addr} {ns : List Int} {tf : List Str} (hl : ns.length ≤ sizeLine) (S : Start0 K (tf.map fun p => He.cT K (p, none)) a H) (h : SqL K H a (ns.map V.int)) : ∃ wd : Wd, Good (tabT K tf) wd H ∧ Rep K wd (.ref a) (.scr ns) := by
  have tab : Tabs (tabT K tf) H := fun q hq => by
    obtain ⟨p, hp, rfl⟩ := List.mem_map.mp hq
    exact TabS.nil (S.t _ (List.mem_map.mpr ⟨p, hp, rfl⟩))
  have siz : ∀ b o, H b = some o → SizedH o := fun b o e => by
    rcases S.o b o e with ⟨_, rfl⟩ | ⟨_, _, _, _, rfl⟩ <;> exact trivial
  have hl' : (ns.map V.int).length ≤ sizeLine := by rw [List.length_map]; exact hl
  have key : ∀ o, H a = some o → noTb o → Sized o → Good (tabT K tf) ⟨fun b => if b = a then some o else none, []⟩ H := fun o e t z => by
    refine ⟨fun b u q => ?_, fun b u q => ?_, fun b hb => (nomatch hb), tab, siz⟩
    · have q : (if b = a then some o else none) = some u := q
      split at q
      · rename_i eb
        rw [eb, e, q]
      · cases q
    · have q : (if b = a then some o else none) = some u := q
      split at q
      · cases q
        exact ⟨t, z⟩
      · cases q
  rcases h with (h | ⟨o, h⟩) | h
  · exact ⟨_, key _ h noTb_lst hl', .scr (.inl (.inl (if_pos rfl)))⟩
  · exact ⟨_, key _ h (fun _ z => nomatch z) hl', .scr (.inl (.inr ⟨o, if_pos rfl⟩))⟩
  · exact ⟨⟨fun _ => none, []⟩, ⟨fun b u q => (nomatch q), fun b u q => (nomatch q), fun b hb => (nomatch hb), tab, siz⟩, .scr (.inr h)⟩
theorem law_endZ {l : PySem.W.OpenLaw} {k : Nat} {q : Program} {loose : List Str} {XP : (Str → Option Value) → Heap → Prop} {d : DefRec} {x : Str} {fa : List He.Fa} {fn : List He.DefD} {fb : List He5.DefA} {xi : List IniD} {tf : List Str} {ex : PySem.W.Frag → Bool} {n : Nat} {st : Stmt} {F : Fn}
    (hn : l.most = some 63) (hdf : d.params.defaults = []) (hr : Room k callerA) (hname : d.name = "law")
    (hd : ∀ (w : World) (K : PySem.W.Frag) (mg : Str → Option Value) (h base : Heap), K.In h → h.Ns mainGlobals mg → SaysZ fa fn fb xi tf ex h K → HasD K mg "law" st ∧ ((∀ y ∈ tf, LamT K mg base (tabT K tf) y) → DefG l.prog w K mg base (tabT K tf) "law" k [x] F))
    (hb : ∀ (K : PySem.W.Frag) (f : Addr) (fd : FuncData), FunD K "law" "law" (defArgs st) (defBody st) (defScope st) [] [] f fd → ∀ (s : Shared) (u : Value), BindsTo s fd ⟨[u], []⟩ [(x, u)])
    (law : ∀ ns : List Int, ns.length ≤ 63 → F [.scr ns] (fun v => v = .bl true) (fun _ => False)) :
    PySem.W.WalkO q loose XP (hookZ n fa fn fb xi tf ex).says l.row.toRowW d [] (fun f vs => PySem.call f vs) := by
  refine Att.attach_callB hn hdf fun w s₀ s₁ mg mb f o pm cd doc a vs ns G Y ho hdd hcd hmg hobj hints hlen hbits hg => ?_
  obtain ⟨K, KX, c⟩ := Y
  rw [hname] at hmg
  obtain ⟨⟨f', fd, D, gm⟩, _⟩ := hd w K mg s₁.heap s₁.heap KX G.T.g c
  rw [gm] at hmg
  cases hmg
  have Z : Top0 K mg mb (tf.map fun p => He.cT K (p, none)) s₁ := by
    refine ⟨KX, G.T.g, G.T.b, G.T.builtins, G.T.nolimit, hg, fun p hp => ?_, fun p hp => ?_, fun p hp => ?_, G.T.bmain⟩
    · obtain ⟨y, hy, rfl⟩ := List.mem_map.mp hp
      exact c.emp y hy
    · obtain ⟨y, hy, rfl⟩ := List.mem_map.mp hp
      exact c.out y hy
    · obtain ⟨y, hy, rfl⟩ := List.mem_map.mp hp
      exact PySem.W.codeHd_of_K KX (c.hd y hy)
  refine law_callG (sp := spec K (tabT K tf) F) Z hobj hints (Nat.le_trans hlen (by decide)) hr (fun base KB GB TB => ?_) (hb K _ fd D) fun H S hS => ?_
  · obtain ⟨f2, fd2, g1, g2, g3, g4, oc2, od2, osl2, lk2⟩ := ((hd w K mg s₁.heap base KX G.T.g c).2 fun y hy => lamT_of c.nd (fun p hp => TB _ (List.mem_map.mpr ⟨p, hp, rfl⟩)) hy).ex
    rw [gm] at g1
    cases g1
    have e : fd2 = fd := by
      obtain ⟨oc, od, dV, kV, doc, pm, an, cdv, ct, osl, _, lk, _⟩ := D.ex
      rw [lk] at lk2
      cases lk2
      rfl
    rw [e] at g4
    exact g4
  · obtain ⟨wd, g, r⟩ := good_startT (Nat.le_trans hlen (by decide)) S hS
    refine ⟨wd, [.scr ns], _, _, g, .cons r .nil, law ns hlen, fun x hx => hx.elim, fun d hd v wd' H' _ _ _ rp => ?_⟩
    rw [hd] at rp
    cases rp
    rfl
end Pd

namespace Pd
open PySem PySem.Spec PyProof.Rows L2
def pushB : List Addr → Nat → List Addr → (Nat → List Addr → List Addr) → List Addr
  | [], v, acc, k => k v acc
  | a :: r, v, acc, k => match Nat.testBit v a with
    | true => pushB r v acc k
    | false => pushB r (v ||| (1 <<< a)) (a :: acc) k
def refsG (g : Addr → Option Obj) (a : Addr) : List Addr := match g a with
  | some o => He.refsD o
  | none => []
def bfsB (g : Addr → Option Obj) : Nat → Nat → List Addr → List Addr
  | 0, _, l => l
  | n + 1, v, l => pushB (l.flatMap (refsG g)) v [] fun v l' => l ++ bfsB g n v l'
def asB (g : Addr → Option Obj) (n : Nat) : List Addr := bfsB g n (1 <<< mainGlobals) [mainGlobals] ++ [cStatics]
def frB (g : Addr → Option Obj) (n : Nat) : PySem.W.Frag := He.frT g (asB g n)
def obsV (n : Nat) (fa : List He.Fa) (fn : List He.DefD) (fb : List He5.DefA) (xi : List IniD) (tf : List Str) (ex : PySem.W.Frag → Bool) (g : Addr → Option Obj) : AlZ :=
  (He.obsD fa fn (frB g n), He5.obsA [] fb (frB g n), xi.map (fun d => iniObs (frB g n) d.C), ex (frB g n) && (decide ((tf.map fun p => (He.cT (frB g n) (p, none)).2).Nodup) && He.tabsB g (tf.map fun p => (p, none)) (frB g n)))
theorem saysV_of {n : Nat} {fa : List He.Fa} {fn : List He.DefD} {fb : List He5.DefA} {xi : List IniD} {tf : List Str} {ex : PySem.W.Frag → Bool} {h : Heap} (e : obsV n fa fn fb xi tf ex h.get? = valZ fn fb xi) : SaysZ fa fn fb xi tf ex h (frB h.get? n) := by
  have e4 : (ex (frB h.get? n) && (decide ((tf.map fun p => (He.cT (frB h.get? n) (p, none)).2).Nodup) && He.tabsB h.get? (tf.map fun p => (p, none)) (frB h.get? n))) = true := congrArg (fun z : AlZ => z.2.2.2) e
  obtain ⟨h1, h2⟩ := He.ba e4
  obtain ⟨h2, h3⟩ := He.ba h2
  have key : ∀ p ∈ tf, PySem.W.codeHdIn (frB h.get? n) (He.cT (frB h.get? n) (p, none)).1 (He.cT (frB h.get? n) (p, none)).2 = true ∧ ∃ o, h.get? (He.cT (frB h.get? n) (p, none)).2 = some o ∧ He.emptyTab o = true := fun p hp => by
    obtain ⟨z1, z2⟩ := He.ba (List.all_eq_true.mp h3 (p, none) (List.mem_map_of_mem hp))
    refine ⟨z1, ?_⟩
    cases q : h.get? (He.cT (frB h.get? n) (p, none)).2 with
    | none =>
      rw [q] at z2
      cases z2
    | some o =>
      rw [q] at z2
      exact ⟨o, rfl, z2⟩
  refine ⟨congrArg (fun z : AlZ => z.1) e, congrArg (fun z : AlZ => z.2.1) e, congrArg (fun z : AlZ => z.2.2.1) e, h1, of_decide_eq_true h2, fun p hp => (key p hp).1, fun p hp => ?_, fun p hp => ?_⟩
  · obtain ⟨_, o, q, z⟩ := key p hp
    exact He.frT_none q z
  · obtain ⟨_, o, q, z⟩ := key p hp
    rw [q, He.emptyTab_eq z]
def hookV (n : Nat) (fa : List He.Fa) (fn : List He.DefD) (fb : List He5.DefA) (xi : List IniD) (tf : List Str) (ex : PySem.W.Frag → Bool) : PySem.W.Hook where
  α := AlZ
  obs := fun s => obsV n fa fn fb xi tf ex s.heap.get?
  val := fun _ => valZ fn fb xi
  says := (hookZ n fa fn fb xi tf ex).says
  of := fun _ _ e => ⟨_, He.frT_in, saysV_of e⟩
  keeps := (hookZ n fa fn fb xi tf ex).keeps
theorem obsV_eq {n : Nat} {fa : List He.Fa} {fn : List He.DefD} {fb : List He5.DefA} {xi : List IniD} {tf : List Str} {ex : PySem.W.Frag → Bool} {g : Addr → Option Obj} {s : Shared} (h : ∀ a, g a = s.heap.get? a) : obsV n fa fn fb xi tf ex g = (hookV n fa fn fb xi tf ex).obs s := by
  have e : g = s.heap.get? := funext h
  rw [e] <;> rfl
theorem law_endV {l : PySem.W.OpenLaw} {k : Nat} {q : Program} {loose : List Str} {XP : (Str → Option Value) → Heap → Prop} {d : DefRec} {x : Str} {fa : List He.Fa} {fn : List He.DefD} {fb : List He5.DefA} {xi : List IniD} {tf : List Str} {ex : PySem.W.Frag → Bool} {n : Nat} {st : Stmt} {F : Fn}
    (hn : l.most = some 63) (hdf : d.params.defaults = []) (hr : Room k callerA) (hname : d.name = "law")
    (hd : ∀ (w : World) (K : PySem.W.Frag) (mg : Str → Option Value) (h base : Heap), K.In h → h.Ns mainGlobals mg → SaysZ fa fn fb xi tf ex h K → HasD K mg "law" st ∧ ((∀ y ∈ tf, LamT K mg base (tabT K tf) y) → DefG l.prog w K mg base (tabT K tf) "law" k [x] F))
    (hb : ∀ (K : PySem.W.Frag) (f : Addr) (fd : FuncData), FunD K "law" "law" (defArgs st) (defBody st) (defScope st) [] [] f fd → ∀ (s : Shared) (u : Value), BindsTo s fd ⟨[u], []⟩ [(x, u)])
    (law : ∀ ns : List Int, ns.length ≤ 63 → F [.scr ns] (fun v => v = .bl true) (fun _ => False)) :
    PySem.W.WalkO q loose XP (hookV n fa fn fb xi tf ex).says l.row.toRowW d [] (fun f vs => PySem.call f vs) := law_endZ (n := n) hn hdf hr hname hd hb law
end Pd
namespace Pd
open PySem PySem.W PySem.Calls PyProof.Rows HandSHeadRun
def Run1 (r : OpenRow) (M : Nat) (w : World) : Prop := ∀ os : OsState, (endF (stepQ (denQ tabQ) r.prog w) M r.prog w os).map (fun s => looksF r.prog (boot_heap w.params) s.abs) = some true
def Run2 (r : OpenRow) (q : Program) (M : Nat) (loose : List PySem.Str) (w : World) : Prop := ∀ os : OsState, (endF (stepQ (denQ tabQ) r.prog w) M r.prog w os).map (fun s => seenQ q loose (importedModules r.prog.main.body) (fun s => xlAt q [] s && recOk r.toRowW.records s) s.abs) = some (openGood q loose)
def Run3 (r : OpenRow) (H : Hook) (ob : SharedT → H.α) (M : Nat) (w : World) : Prop := ∀ os : OsState, (endF (stepQ (denQ tabQ) r.prog w) M r.prog w os).map ob = some (H.val w)
theorem runEq_of {r : OpenRow} {q : Program} {H : Hook} {ob : SharedT → H.α} {M : Nat} {loose : List PySem.Str} {w : World} (h1 : Run1 r M w) (h2 : Run2 r q M loose w) (h3 : Run3 r H ob M w) : RunEq r q H ob M loose w := by
  intro os
  have a := h1 os
  have b := h2 os
  have c := h3 os
  cases e : endF (stepQ (denQ tabQ) r.prog w) M r.prog w os with
  | none =>
    rw [e] at a
    cases a
  | some t =>
    rw [e] at a b c
    exact congrArg some (Prod.ext (Option.some.inj a) (Prod.ext (Option.some.inj b) (Option.some.inj c)))
end Pd

namespace Pd
open PySem PySem.Spec PyProof.Rows L2 LamX
section
variable {X : Cx} {i : Nat}
theorem mixNil : MixOk X [] (([] : List Hd).map (clOf X.K i)) := .nil
theorem mixP {C s : Str} {j : Nat} {p1 p2 p3 p4 p5 : Pos} {hs : List ExceptHandler} {qs : List Hd} (gl : X.mg C = some (.ref (He.ga X.K C))) (r : MixOk X hs (qs.map (clOf X.K i))) (hg : Gl X C := by rfl) (hd : (C == ("__debug__" : Str)) = false := by decide) :
    MixOk X (.ExceptHandler (some (.Name C p1)) none [.Return (some (.List [.Constant (.str s) j p3] p4)) p5] p2 :: hs) ((⟨C, s, none⟩ :: qs).map (clOf X.K i)) :=
  .plain (c := .ref (He.ga X.K C)) (ts := tsPl s) ⟨hg, hd, .inl gl⟩ (fun a oe cls d pn hz hf => pss_one (ps_ret (pe_lst (pa_cons pe_str pa_nil)))) r
theorem mixN {C s n f : Str} {j : Nat} {p1 p2 p3 p4 p5 p6 p7 : Pos} {hs : List ExceptHandler} {qs : List Hd} (gl : X.mg C = some (.ref (He.ga X.K C))) (xf : XfC X.K (He.ga X.K C)) (na : PySem.W.findIn X.K (.ref (He.ga X.K C)) f = some none) (r : MixOk X hs (qs.map (clOf X.K i))) (hN : X.N[i]? = some n := by rfl)
    (hl : X.env.kindOf n = some .local := by rfl) (hg : Gl X C := by rfl) (hd : (C == ("__debug__" : Str)) = false := by decide) (hd2 : (n == ("__debug__" : Str)) = false := by decide) (hcd : (n == ("__classdict__" : Str)) = false := by decide)
    (hb : attributeBase (.Name n p6) f X.env (eval (.Name n p6) X.env) = eval (.Name n p6) X.env := by rfl)
    (hst : ∀ a oe pn, starEach [.Constant (.str s) j p3, .Attribute (.Name n p6) f p7] (X.suite a ((a, oe) :: pn)).env = (false, eval (.Constant (.str s) j p3) (X.suite a ((a, oe) :: pn)).env) :: starEach [.Attribute (.Name n p6) f p7] (X.suite a ((a, oe) :: pn)).env := by intros; rfl)
    (hst2 : ∀ a oe pn, starEach [.Attribute (.Name n p6) f p7] (X.suite a ((a, oe) :: pn)).env = (false, eval (.Attribute (.Name n p6) f p7) (X.suite a ((a, oe) :: pn)).env) :: starEach [] (X.suite a ((a, oe) :: pn)).env := by intros; rfl) :
    MixOk X (.ExceptHandler (some (.Name C p1)) (some n) [.Return (some (.List [.Constant (.str s) j p3, .Attribute (.Name n p6) f p7] p4)) p5] p2 :: hs) ((⟨C, s, some f⟩ :: qs).map (clOf X.K i)) :=
  .named (c := .ref (He.ga X.K C)) (i := i) (ts := tsNm X.K C i s f) ⟨hg, hd, .inl gl⟩ hN hl (fun a oe cls d pn hz hf => pss_one (ps_ret (pe_lst (pa_cons pe_str (pa_cons (pe_xf xf na hz hf (pe_var hN (.inl hl) hd2 hcd) hb) pa_nil (hst2 a oe pn)) (hst a oe pn))))) r
end
structure OutD (P : Program) (w : World) (K : PySem.W.Frag) (mg : Str → Option Value) (base : Heap) (x : Str) (cls : List Str) (hs : List Hd) : Prop where
  ex : ∃ (a : Str) (pg : Arguments) (sg : Scope) (fd : FuncData) (g : Addr) (h0 : ExceptHandler) (hds : List ExceptHandler) (Ng : List Str) (i : Nat) (p1 p2 p3 p8 : Pos), FunD K x x pg [.Try [.Return (some (.Call (.Name a p1) [] [] p2)) p3] (h0 :: hds) [] [] p8] sg [] [] g fd ∧ mg x = some (.ref g) ∧ Binds K fd [a] [] ∧
    FnScope Ng [a] sg ∧ Ng[0]? = some a ∧ Vis sg a ∧ i < Ng.length ∧ (∀ (A : Around) (outer : List Env) (cdg : Value) (s : Shared) (H : Hp), MixOk (cxOf C8.CX0 P w K mg base Ng x sg g cdg A outer s H C8.E0).nox (h0 :: hds) (hs.map (clOf K i))) ∧ ExmOk K cls hs ∧ (a == ("__debug__" : Str)) = false ∧ (a == ("__classdict__" : Str)) = false
theorem outD_of {P : Program} {w : World} {K : PySem.W.Frag} {mg : Str → Option Value} {base : Heap} {x a : Str} {st : Stmt} {cls : List Str} {hs : List Hd} {Ng : List Str} {i : Nat} {h0 : ExceptHandler} {hds : List ExceptHandler} {p1 p2 p3 p8 : Pos} (d : HasD K mg x st)
    (body : defBody st = [.Try [.Return (some (.Call (.Name a p1) [] [] p2)) p3] (h0 :: hds) [] [] p8]) (S : FnScope Ng [a] (defScope st)) (bn : ∀ (f : Addr) (fd : FuncData), FunD K x x (defArgs st) (defBody st) (defScope st) [] [] f fd → Binds K fd [a] [])
    (h1 : Ng[0]? = some a) (h2 : Vis (defScope st) a) (h3 : i < Ng.length) (mx : ∀ (g : Addr) (A : Around) (outer : List Env) (cdg : Value) (s : Shared) (H : Hp), MixOk (cxOf C8.CX0 P w K mg base Ng x (defScope st) g cdg A outer s H C8.E0).nox (h0 :: hds) (hs.map (clOf K i))) (em : ExmOk K cls hs)
    (h4 : (a == ("__debug__" : Str)) = false := by decide) (h5 : (a == ("__classdict__" : Str)) = false := by decide) : OutD P w K mg base x cls hs := by
  obtain ⟨f, fd, D, gm⟩ := d
  have D' := D
  rw [body] at D'
  exact ⟨a, defArgs st, defScope st, fd, f, h0, hds, Ng, i, p1, p2, p3, p8, D', gm, bn f fd D, S, h1, h2, h3, mx f, em, h4, h5⟩
section
variable {X : Cx} {T : List (Addr × Str)} {E : XK} {k : Nat}
theorem je_outD {x y : Str} {cls : List Str} {hs : List Hd} {kb : Nat} {params : Arguments} {body : Expr} {scope : Scope} {w : W D} {p lpos pos : Pos} (B : Bd X E k) (O : OutD X.prog X.w X.K X.mg X.base x cls hs) (L : LamT X.K X.mg X.base T y)
    (hbody : ∀ (A : Around) (outer : List Env) (s : Shared) (H : Hp) (E' : XK) (f c' : Addr), Bd (lamCx X A outer s H E' scope f c') E' kb → JE T (lamCx X A outer s H E' scope f c') E' body w)
    (hq : X.env.qual ++ "<lambda>" = lamNm y := by rfl) (hcode : X.env.code = .ref (He.codeOf X.K (y, none)) := by rfl) (Ls : LamS X.env.scope scope := by exact lamS_by (by rfl))
    (hk : kb + 2 ≤ k := by decide) (hdef : defaultsOf params X.env = ([], []) := by rfl)
    (hbind : ∀ (q : Str) (cl : List (Str × Addr)) (pm cv ctv : Value), bindArgs (PySem.W.kla_fn "<lambda>" q params body scope cl pm cv ctv) ⟨[], []⟩ = pure [] := by intros; rfl) (hg : Gl X x := by rfl) (hdb : (x == ("__debug__" : Str)) = false := by decide) :
    JE T X E (.Call (.Name x p) [.Lambda params body scope lpos] [] pos) (wOut cls hs w) := by
  obtain ⟨a, pg, sg, fd, g, h0, hds, Ng, i, p1, p2, p3, p8, D, gm, bn, S, h1, h2, h3, mx, em, h4, h5⟩ := O.ex
  exact je_out B D gm bn S h1 h2 h3 (fun cdg s H => mx X.A X.stack cdg s H) em L.tb hcode (by rw [hq]; exact L.mem) (fun p hp e => by rw [hq]; exact L.uni p hp e) Ls hbody hk hdef hbind hg hdb h4 h5
end
theorem excC_of {K : PySem.W.Frag} {mg : Str → Option Value} {C : Str} (h : (He.Fa.exc C).ok K = true) (g : mg C = some (.ref (He.ga K C))) : ExcC K mg C := by
  obtain ⟨h1, h2, h3, h4⟩ := He.exc_ok h
  exact ⟨h1, h2, h3, h4, g⟩
theorem exm_all {K : PySem.W.Frag} {cls : List Str} {hs : List Hd} (h : (cls.all fun y => hs.all fun h => decide (PySem.W.exmOne K (.ref (He.ga K y)) (.ref (He.ga K h.x)) = some (decide (h.x = y)))) = true) : ExmOk K cls hs := fun y hy h' hh =>
  of_decide_eq_true (List.all_eq_true.mp (List.all_eq_true.mp h y hy) h' hh)
end Pd

namespace Pd
open PySem PySem.Spec PyProof.Rows L2 LamX
section
variable {X : Cx} {T : List (Addr × Str)} {E : XK} {k : Nat}
theorem pe_dict1 {i v : Int} {j j2 : Nat} {p1 p2 pos : Pos} : PE X (.Dict [some (.Constant (.int i) j p1)] [.Constant (.int v) j2 p2] pos) (fun σ H Q => ∀ p, H p = none → Q (.ref p) (upd H p (.dK [(Sum.inl i, .int v)]))) := by
  refine ⟨fun pins s σ H Q I h => ?_⟩
  refine wpAny_Dict_pairs (knd := mixKind X.prog X.w) (pairs := [(eval (.Constant (.int i) j p1) X.env, do let x ← eval (.Constant (.int v) j2 p2) X.env; standAt pos; pure x)]) rfl (by simp) (by simp) ?_
  refine evalPairs_cons (wpAny_Constant_int (wpAny_bind (wpAny_Constant_int (wpAny_bind (wpAny_standAt (wpAny_pure (evalPairs_nil ?_)))))))
  refine ⟨[(Sum.inl i, .int v (s.toks + 1))], ⟨?_, rfl, trivial⟩, Heap.DictOf.new s.heap, fun h' hd hs => ?_⟩
  · simp [mixKind, L2.keyIs, Value.isInt]
  · refine ⟨.ref s.heap.objs.size, _, I.laid (h' := h') (a := s.heap.objs.size) (o := .dK [(Sum.inl i, .int v)]) (fun b o q => ?_) (Nat.le_refl _) ⟨by show 1 ≤ sizeLine; decide, beq_eq_false_iff_ne.mpr (Ne.symm (Nat.ne_of_lt I.big)), _, ?_, hd⟩, rfl, h _ (I.hok.fresh (Nat.le_refl _))⟩
    · rw [hs.2 b (Nat.ne_of_lt (Heap.lt_size q))]
      exact Heap.get?_push_of_some _ q
    · exact .cons ⟨rfl, _, rfl⟩ .nil
theorem je_dict1 {i v : Int} {j j2 : Nat} {p1 p2 pos : Pos} : JE T X E (.Dict [some (.Constant (.int i) j p1)] [.Constant (.int v) j2 p2] pos) (W.ret (.dic [(Sum.inl i, .int v)])) :=
  peI pe_dict1 fun σ H Q ⟨c, wd, env, P, Ex, rl, h, xo, kk⟩ => fun p hp => by
    have g : Grow wd H (wd.add p (.dK [(Sum.inl i, .int v)])) (upd H p (.dK [(Sum.inl i, .int v)])) := Grow.one hp noTb_dK trivial
    exact kk _ env h (.ref p) _ _ (Le.add (rl.good.mnone hp)) (rl.grow g) (.dic upd_same rfl (.cons (.int v) .nil))
end
def dEqS : D → D → Option D
  | .str x, .str y => some (.bl (decide (x = y)))
  | _, _ => none
theorem opD_eqS {X : Cx} : OpD X (compareOp .Eq) dEqS := ⟨_, op_eq, fun x y z e T wd H v u Q g rx ry d => by
  cases rx <;> first | cases e | skip
  cases ry <;> first | cases e | skip
  refine ⟨rfl, ?_⟩
  rw [show decide (V.str _ = V.str _) = decide (_ = _) from decide_eq_decide.mpr ⟨fun h => by injection h, fun h => by rw [h]⟩]
  exact d.now (.bl _)⟩
theorem defG_okX {P : Program} {w : World} {K : PySem.W.Frag} {mg : Str → Option Value} {base : Heap} {T : List (Addr × Str)} {x : Str} {st : Stmt} {N ps : List Str} {k : Nat} {F : Fn} (d : HasD K mg x st) (gm : mg x = some (.ref (He.ga K x))) (S : FnScope N ps (defScope st))
    (bn : ∀ (f : Addr) (fd : FuncData), FunD K x x (defArgs st) (defBody st) (defScope st) [] [] f fd → Binds K fd ps []) (len : ∀ ds Q Ex, F ds Q Ex → ds.length = ps.length)
    (hd : ∀ (A : Around) (outer : List Env) (s : Shared) (H : Hp) (E : XK), A.guards = some [] → Bd (cxOf (L2.CX P w) P w K mg base N x (defScope st) (He.ga K x) (.ref (He.codeOf K (x, none))) A outer s H E) E k →
      Takes (cxOf (L2.CX P w) P w K mg base N x (defScope st) (He.ga K x) (.ref (He.codeOf K (x, none))) A outer s H E) (fun cls d _ H => E cls d H) →
      ∃ wb, JSs T (cxOf (L2.CX P w) P w K mg base N x (defScope st) (He.ga K x) (.ref (He.codeOf K (x, none))) A outer s H E) E (defBody st) wb ∧ ∀ ds Q Ex, F ds Q Ex → wb (dEnds Q Ex) (startE N ds)) : DefG P w K mg base T x (k + 1) ps F := by
  obtain ⟨f, fd, D, gm'⟩ := d
  rw [gm] at gm'
  cases gm'
  exact defG_ok D S gm (bn _ _ D) len hd
end Pd

namespace Pd
open PySem PySem.Spec PyProof.Rows L2 LamX
theorem rev_adjust (n : Nat) : Builtin.Slice.sliceAdjust none none (-1) (n : Int) = ((n : Int) - 1, -1) := by
  unfold Builtin.Slice.sliceAdjust
  simp
theorem rev_places (n : Nat) : Builtin.Slice.slicePlaces ((n : Int) - 1) (-1) (-1) = n := by
  unfold Builtin.Slice.slicePlaces
  simp
  split <;> omega
theorem fm_congr {α β : Type} {f g : α → Option β} : ∀ {l : List α}, (∀ x ∈ l, f x = g x) → l.filterMap f = l.filterMap g
  | [], _ => rfl
  | a :: l, h => by
    rw [List.filterMap_cons, List.filterMap_cons, h a List.mem_cons_self, fm_congr fun x hx => h x (List.mem_cons_of_mem _ hx)]
theorem rev_pick (xs : Array Value) : ((List.range xs.size).filterMap fun (k : Nat) => xs[(((xs.size : Int) - 1) + (k : Int) * (-1)).toNat]?).toArray = xs.toList.reverse.toArray := by
  have e : ((List.range xs.size).filterMap fun (k : Nat) => xs[(((xs.size : Int) - 1) + (k : Int) * (-1)).toNat]?) = ((List.range xs.size).map fun k => xs.size - 1 - k).filterMap (xs[·]?) := by
    rw [List.filterMap_map]
    refine fm_congr fun k hk => ?_
    have := List.mem_range.mp hk
    show xs[_]? = xs[xs.size - 1 - k]?
    congr 1
    omega
  rw [e, PySem.W.krv_range, List.filterMap_reverse, PySem.W.krv_all]
section
variable {prog : Program} {w : World} {A : Around} {E : Value → Shared → Prop} {s : Shared}
theorem rev_parts {sl : Addr} {vs : Value} {Q : Value × Value × Value → Shared → Prop} (hs : s.heap.IsSliceOf sl .none .none vs) (h : Q (.none, .none, vs) s) : wpAny (model prog w) A (Builtin.Slice.sliceFields (.ref sl)) Q E s := by
  obtain ⟨o, at_, _, dt⟩ := hs
  unfold Builtin.Slice.sliceFields
  apply wpAny_bind
  apply wpAny_field at_ dt rfl
  apply wpAny_bind
  apply wpAny_field at_ dt rfl
  apply wpAny_bind
  apply wpAny_field at_ dt rfl
  exact wpAny_pure h
theorem rev_applied {sl : Addr} {vs : Value} {n : Nat} {Q : Int × Int × Nat → Shared → Prop} (hs : s.heap.IsSliceOf sl .none .none vs) (ps : IsPart vs (some (-1))) (h : Q ((n : Int) - 1, -1, n) s) : wpAny (model prog w) A (Builtin.Slice.sliceApplied (.ref sl) (pure (n : Int))) Q E s := by
  have back : ((-1 : Int) == 0) = false := by decide
  unfold Builtin.Slice.sliceApplied
  apply wpAny_bind
  apply rev_parts hs
  apply wpAny_bind
  apply HT.slicePart_ ps
  simp only [back, Bool.false_eq_true, if_false]
  apply wpAny_bind
  apply slicePart_none
  apply wpAny_bind
  apply slicePart_none
  apply wpAny_bind
  apply wpAny_pure
  show wpAny _ _ (let (lo, hi) := Builtin.Slice.sliceAdjust none none (-1) (n : Int); pure (lo, (-1 : Int), Builtin.Slice.slicePlaces lo hi (-1))) _ _ s
  rw [rev_adjust]
  dsimp only
  rw [rev_places]
  exact wpAny_pure h
theorem rev_answer {t sl : Addr} {items : Array Value} {vs : Value} {Q : Value → Shared → Prop} (ht : IsTup s.heap t items) (hs : s.heap.IsSliceOf sl .none .none vs) (ps : IsPart vs (some (-1))) (hz : items.size ≤ sizeLine)
    (h : Q (.ref s.heap.objs.size) { s with heap := s.heap.push { cls := .type "tuple", data := .seq items.toList.reverse.toArray } }) : wpAny (model prog w) A (Builtin.«tuple.__getitem__» ⟨[.ref t, .ref sl], []⟩) (fun fin s' => ∃ v, fin = .done (.ret v) ∧ Q v s') E s := by
  have kind : s.TypeIs (.ref sl) "slice" := by
    obtain ⟨o, at_, c, _⟩ := hs
    exact ⟨o, at_, c⟩
  have part : (((items.size : Int) - 1) == 0 && (-1 : Int) == 1 && items.size == items.size) = false := by simp
  have fits : sizeOk (.seq items.toList.reverse.toArray) := by
    show items.toList.reverse.toArray.size ≤ sizeLine
    simpa using hz
  show wpAny _ _ (Builtin.Tuple.tupleItemsOf (.ref t) >>= _) _ _ s
  apply wpAny_bind
  apply tupleItemsOf_ ht
  apply wpAny_bind
  apply wpAny_typeOf kind
  simp only [beq_self_eq_true, if_true]
  apply wpAny_bind
  apply rev_applied hs ps
  simp only [part, Bool.false_eq_true, if_false]
  rw [rev_pick]
  apply wpAny_bind
  exact wpAny_newObj_type (wpAny_pure ⟨_, rfl, h⟩) fits
theorem rev_getItem {t sl : Addr} {items : Array Value} {vs : Value} {Q : Value → Shared → Prop} (ht : IsTup s.heap t items) (hs : s.heap.IsSliceOf sl .none .none vs) (ps : IsPart vs (some (-1))) (hz : items.size ≤ sizeLine)
    (h : Q (.ref s.heap.objs.size) { s with heap := s.heap.push { cls := .type "tuple", data := .seq items.toList.reverse.toArray } }) : wpAny (model prog w) A (getItem (.ref t) (.ref sl)) Q E s := by
  have own := rev_answer (prog := prog) (w := w) (A := A.in1) (E := E) (Q := Q) ht hs ps hz h
  have asked := wpAny_call_entry (A := A) PyProof.Rows.slot_tuple_getitem ht.typeIs PyProof.Rows.entry_tuple_getitem own (PyProof.Rows.args_tuple_getitem _ _)
  unfold getItem
  apply wpAny_holding
  apply wpAny_bind
  apply wpAny_sequenceKey ht.typeIs (by decide)
  apply wpAny_bind
  apply wpAny_callSpecial?_slot ht.typeIs PyProof.Rows.slot_tuple_getitem
  exact wpAny_mono asked (fun v s' q => wpAny_pure q) fun _ _ z => z
end
section
variable {X : Cx} {T : List (Addr × Str)} {E : XK} {k : Nat}
theorem po_back {k : Nat} {p1 p2 : Pos} : PO X (some (.UnaryOp .USub (.Constant (.int 1) k p1) p2)) (tPart (tUn (rU fun i => .int (-i)) (tC (.int 1)))) := po_some (pe_un un_neg pe_int)
theorem pe_revT {e : Expr} {te : TE} {k : Nat} {p1 p2 p3 pos : Pos} (he : PE X e te) : PE X (.Subscript e (.Slice none none (some (.UnaryOp .USub (.Constant (.int 1) k p1) p2)) p3) pos) (fun σ H Q => te σ H fun x H1 => ∃ a xs, x = .ref a ∧ SqT X.K H1 a xs ∧ ∀ p, H1 p = none → Q (.ref p) (upd H1 p (.tup xs.reverse))) := by
  constructor
  intro pins s σ H Q I h
  apply Subscript_
  apply thn (he.run pins s σ H _ I h)
  rintro _ s1 ⟨_, H1, I1, r1, a, xs, rfl, hx, q⟩
  cases r1
  apply wpAny_Slice
  apply thn (po_none.run pins s1 σ H1 (fun o G => o = none ∧ G = H1) I1 ⟨rfl, rfl⟩)
  rintro _ s2 ⟨_, H2, I2, none1, rfl, rfl⟩
  apply thn (po_none.run pins s2 σ H2 (fun o G => o = none ∧ G = H2) I2 ⟨rfl, rfl⟩)
  rintro _ s3 ⟨_, H3, I3, none2, rfl, rfl⟩
  apply thn (po_back.run pins s3 σ H3 (fun o G => o = some (-1) ∧ G = H3) I3 ⟨1, rfl, -1, rfl, rfl, rfl⟩)
  rintro vs s4 ⟨_, H4, I4, back, rfl, rfl⟩
  cases none1
  cases none2
  have slice := Heap.IsSliceOf.new s4.heap .none .none vs
  have I5 := I4.kept (t' := s4.toks) (h' := s4.heap.push { cls := .type "slice", data := .fields #[.none, .none, vs] }) fun _ _ g => Heap.get?_push_of_some _ g
  obtain ⟨its, same, tup, fits⟩ := I5.tuple hx
  have few : its.toArray.size ≤ sizeLine := by simpa [same.length] using fits
  refine tail_any (ops := [.ref a, .ref s4.heap.objs.size]) tup.typeIs PyProof.Rows.slot_tuple_getitem.lookup ?_ (by with_unfolding_all rfl)
  apply rev_getItem tup slice back few
  have laid := I5.laid (t' := s4.toks) (o := .tup xs.reverse) (fun _ _ g => Heap.get?_push_of_some _ g) (Nat.le_refl _) ⟨by simpa using fits, its.reverse, same.reverse, IsTup.new _ _⟩
  exact ⟨.ref _, _, laid, rfl, q _ (I5.hok.fresh (Nat.le_refl _))⟩
def wRevT (a : W D) : W D := a.bind fun x env Q _ => match x with
  | .tup xs => Q (.tup xs.reverse) env
  | _ => False
theorem je_revT {e : Expr} {a : W D} {kk : Nat} {p1 p2 p3 pos : Pos} (ha : JE T X E e a) : JE T X E (.Subscript e (.Slice none none (some (.UnaryOp .USub (.Constant (.int 1) kk p1) p2)) p3) pos) (wRevT a) := by
  refine peI (pe_revT ha) fun σ H Q ⟨c, wd, env, P, Ex, rl, h, xo, k⟩ => ⟨c, wd, env, _, Ex, rl, h, xo, fun x env1 h1 v wd1 H1 le1 r1 rp => ?_⟩
  dsimp only at h1
  split at h1
  · cases rp with
    | tup hs rs =>
      refine ⟨_, _, rfl, sub_sqT r1.good hs, fun p hp => ?_⟩
      have dd : Del X.K wd1 H1 (.tup (List.reverse _)) Q := fun w wd' H' g rp => k _ env1 h1 w wd' H' (le1.trans (g.le r1.good)) (r1.grow g) rp
      exact dd.tup r1.good hp rs.reverse (by rw [List.length_reverse]; exact siz_sqT r1.good hs)
  · exact h1.elim
end
end Pd

namespace Zn
open PySem
theorem ne_ {a b : Nat} (h : a ≠ b) : @Ne Addr a b := h
def SrcIt (h : Heap) (it c : Nat) (k : Nat) (xs : Array Value) : Prop := (h.IsListIter it c k ∧ h.IsList c xs) ∨ (h.IsTupleIter it c k ∧ h.IsTuple c xs)
theorem SrcIt.at {h h' : Heap} {it c : Nat} {k : Nat} {xs : Array Value} (s : SrcIt h it c k xs) (h1 : ∀ o, h.get? it = some o → h'.get? it = some o) (h2 : ∀ o, h.get? c = some o → h'.get? c = some o) : SrcIt h' it c k xs := by
  rcases s with ⟨a, b⟩ | ⟨a, b⟩
  · exact .inl ⟨a.at h1, b.at h2⟩
  · exact .inr ⟨a.at h1, b.at h2⟩
section
variable {prog : Program} {w : World} {A : Around} {E : Value → Shared → Prop} {s : Shared}
theorem next_item {it c : Nat} {k : Nat} {xs : Array Value} {x : Value} {Q : Value → Shared → Prop} (hs : SrcIt s.heap it c k xs) (ne : c ≠ it) (hx : xs[k]? = some x)
    (hQ : ∀ h', SrcIt h' it c (k + 1) xs → Heap.SameBut it s.heap h' → Q x { s with heap := h' }) : wpAny (model prog w) A (Builtin.SmallTypes.nextOf (.ref it)) Q E s := by
  rcases hs with ⟨a, b⟩ | ⟨a, b⟩
  · exact wpAny_nextOf_list_item a b hx fun h' a' sb => hQ h' (.inl ⟨a', b.extBut sb.extBut ne⟩) sb
  · exact RZ.nextOf_tuple_item a b hx fun h' a' sb => hQ h' (.inr ⟨a', b.at fun o e => sb.extBut _ _ ne e⟩) sb
theorem next_end {it c : Nat} {k : Nat} {xs : Array Value} {Q : Value → Shared → Prop} (hh : A.handled = none) (hs : SrcIt s.heap it c k xs) (hx : xs[k]? = none)
    (hE : ∀ h' e, Heap.ExtBut it s.heap h' → (∃ o, h'.get? e = some o ∧ o.cls = .type "StopIteration") → E (.ref e) { s with heap := h' }) : wpAny (model prog w) A (Builtin.SmallTypes.nextOf (.ref it)) Q E s := by
  rcases hs with ⟨a, b⟩ | ⟨a, b⟩
  · exact wpAny_nextOf_list_end hh a b hx hE
  · exact RZ.nextOf_tuple_end hh a b hx hE
end
structure Srcs (h : Heap) (b : Nat) (cs : List (Nat × Array Value)) (k m : Nat) : Prop where
  it : ∀ (j : Nat) (c : Nat) (xs : Array Value), cs[j]? = some (c, xs) → SrcIt h (b + j) c (if j < m then k + 1 else k) xs
  lo : ∀ (j : Nat) (c : Nat) (xs : Array Value), cs[j]? = some (c, xs) → c < b
abbrev IsTupN (h : Heap) (T : Nat) (xs : Array Value) : Prop := h.get? T = some { cls := .type "tuple", data := .seq xs }
abbrev IsZ (h : Heap) (z TI TO : Nat) (f0 : Value) (f : Bool) : Prop := h.get? z = some { cls := .type "zip", dict := none, data := .fields #[f0, .bool f, .bool false, .ref TI, .ref TO], slots := #[] }
def itsN (b n : Nat) : Array Value := ((List.range n).map fun j => Value.ref (b + j)).toArray
theorem Srcs.same {h h' : Heap} {b : Nat} {cs : List (Nat × Array Value)} {k m : Nat} (s : Srcs h b cs k m) (e : ∀ a o, a < b + cs.length → h.get? a = some o → h'.get? a = some o) : Srcs h' b cs k m :=
  ⟨fun j c xs hj => (s.it j c xs hj).at (fun o q => e _ o (by have := (List.getElem?_eq_some_iff.mp hj).1; omega) q) (fun o q => e _ o (by have := s.lo j c xs hj; omega) q), s.lo⟩
section
variable {prog : Program} {w : World} {A : Around} {E : Value → Shared → Prop} {s : Shared}
theorem held_item {b z T : Nat} {cs : List (Nat × Array Value)} {k : Nat} {f : Bool} {oT : Obj} {Q : Value → Shared → Prop} (hz : IsZ s.heap z (b + cs.length) (b + cs.length + 1) (rawInt T) f) (hT : s.heap.get? T = some oT)
    (hzb : b + cs.length + 1 < z) (hTI : IsTupN s.heap (b + cs.length) (itsN b cs.length)) (hs : Srcs s.heap b cs k 0) (hn : cs ≠ []) (hlt : ∀ q ∈ cs, k < q.2.size) (hsz : cs.length ≤ sizeLine)
    (hQ : ∀ h', IsZ h' z (b + cs.length) (b + cs.length + 1) (rawInt T) true → Srcs h' b cs (k + 1) 0 → IsTupN h' s.heap.objs.size (cs.map fun q => q.2[k]?.getD .none).toArray → h'.objs.size = s.heap.objs.size + 1 →
      (∀ c o, c ≠ z → (c < b ∨ b + cs.length ≤ c) → s.heap.get? c = some o → h'.get? c = some o) → Q (.ref s.heap.objs.size) { s with heap := h' }) :
    wpAny (model prog w) A (Builtin.«zip.__next__» ⟨[.ref z], []⟩) (fun fin s' => ∃ v, fin = .done (.ret v) ∧ Q v s') E s := by
  have some_ : (itsN b cs.length).isEmpty = false := by
    unfold itsN
    cases cs with
    | nil => exact absurd rfl hn
    | cons q cs => simp
  unfold Builtin.«zip.__next__»
  generalize free : Builtin.SmallTypes.ownedTupleIsFree = F
  wp_walk using wpAny_seqItems hTI rfl
  subst free
  apply wpAny_tupleHeld_zip hz hT
  intro h1 hz1 hs1
  simp only [Bool.false_eq_true, ↓reduceIte]
  have key : ∀ j, j < cs.length → ∃ c xs x, cs[j]? = some (c, xs) ∧ xs[k]? = some x ∧ c < b := fun j hj => by
    have e := List.getElem?_eq_getElem hj
    have l := hlt _ (List.getElem_mem hj)
    exact ⟨_, _, _, e, Array.getElem?_eq_getElem l, hs.lo j _ _ e⟩
  refine wpAny_bind (wpAny_forIn_array' _ (fun rest st s' => ∃ (m : Nat) (h' : Heap), m ≤ cs.length ∧ rest = (itsN b cs.length).toList.drop m ∧ st = (none, ((cs.take m).map fun q => q.2[k]?.getD .none).toArray) ∧ s' = { s with heap := h' } ∧ Srcs h' b cs k m ∧ IsZ h' z (b + cs.length) (b + cs.length + 1) (rawInt T) true ∧ h'.objs.size = s.heap.objs.size ∧ ∀ c o, c ≠ z → (c < b ∨ b + cs.length ≤ c) → s.heap.get? c = some o → h'.get? c = some o) _ ?_ ?_ _ _ ?_)
  · rintro x rest st s' ⟨m, h', hm, er, rfl, rfl, hsr, hz', hsz', hk⟩
    have hlt' : m < cs.length := by
      apply Decidable.byContradiction
      intro z
      have : (itsN b cs.length).toList.drop m = [] := List.drop_eq_nil_of_le (by simp [itsN]; omega)
      rw [this] at er
      cases er
    obtain ⟨c, xs, v, e1, e2, e3⟩ := key m hlt'
    have ex : x = .ref (b + m) ∧ rest = (itsN b cs.length).toList.drop (m + 1) := by
      rw [List.drop_eq_getElem_cons (by simp [itsN]; exact hlt')] at er
      have := List.cons.inj er
      exact ⟨by rw [this.1]; simp [itsN], this.2⟩
    obtain ⟨rfl, rfl⟩ := ex
    refine wpAny_bind (wpAny_holding ?_)
    show wpAny _ _ (Builtin.SmallTypes.nextOf (.ref (b + m)) >>= _) _ _ _
    have hit := hsr.it m c xs e1
    rw [if_neg (Nat.lt_irrefl _)] at hit
    refine wpAny_bind (next_item (s := { s with heap := h' }) hit (by omega) e2 fun h2 hit2 sb => wpAny_pure ?_)
    refine wpAny_pure ⟨m + 1, h2, hlt', rfl, ?_, rfl, ⟨fun j c' xs' hj => ?_, hsr.lo⟩, sb.extBut _ _ (ne_ (by omega)) hz', by rw [sb.1]; exact hsz', fun c o h1 h2 h3 => sb.extBut _ _ (ne_ (by omega)) (hk c o h1 h2 h3)⟩
    · have : (cs.take (m + 1)).map (fun q => q.2[k]?.getD Value.none) = (cs.take m).map (fun q => q.2[k]?.getD Value.none) ++ [v] := by
        rw [List.take_add_one, e1, List.map_append]
        show _ ++ [xs[k]?.getD Value.none] = _
        rw [e2]
        rfl
      rw [this]
      simp
    · by_cases hjm : j = m
      · subst hjm
        rw [e1] at hj
        cases hj
        rw [if_pos (Nat.lt_succ_self _)]
        exact hit2
      · have h0 := hsr.it j c' xs' hj
        have hc := hsr.lo j c' xs' hj
        have ee : (if j < m + 1 then k + 1 else k) = if j < m then k + 1 else k := by
          by_cases hh : j < m
          · rw [if_pos hh, if_pos (by omega)]
          · rw [if_neg hh, if_neg (by omega)]
        rw [ee]
        exact h0.at (fun o q => sb.extBut _ _ (ne_ (by omega)) q) fun o q => sb.extBut _ _ (ne_ (by omega)) q
  · rintro st s' ⟨m, h', hm, er, rfl, rfl, hsr, hz', hsz', hk⟩
    have hme : m = cs.length := by
      apply Decidable.byContradiction
      intro z
      have : (itsN b cs.length).toList.drop m ≠ [] := by
        intro e
        have := congrArg List.length e
        simp [itsN] at this
        omega
      exact this er.symm
    subst hme
    rw [List.take_length]
    show wpAny _ _ (newTuple _ >>= _) _ _ _
    refine wpAny_bind (wpAny_newTuple (wpAny_pure ⟨_, rfl, ?_⟩) (by simpa using hsz))
    show Q (.ref h'.objs.size) _
    have e0 : (h'.push { cls := .type "tuple", data := .seq (cs.map fun q => q.2[k]?.getD Value.none).toArray }).get? h'.objs.size = some _ := Heap.get?_push_size _ rfl
    have e1 : (h'.push { cls := .type "tuple", data := .seq (cs.map fun q => q.2[k]?.getD Value.none).toArray }).objs.size = h'.objs.size + 1 := Heap.size_push ..
    rw [hsz'] at e0 e1 ⊢
    refine hQ _ (Heap.get?_push_of_some _ hz') ⟨fun j c xs hj => ?_, hsr.lo⟩ (by simpa using e0) (by simpa using e1) fun c o h1 h2 h3 => Heap.get?_push_of_some _ (hk c o h1 h2 h3)
    have h0 := hsr.it j c xs hj
    rw [if_pos (List.getElem?_eq_some_iff.mp hj).1] at h0
    rw [if_neg (Nat.not_lt_zero _)]
    exact h0.at (fun o q => Heap.get?_push_of_some _ q) fun o q => Heap.get?_push_of_some _ q
  · refine ⟨0, h1, Nat.zero_le _, rfl, rfl, rfl, hs.same fun a o hl q => hs1.extBut _ _ (ne_ (by omega)) q, hz1, hs1.1, fun c o h1' _ h3 => hs1.extBut _ _ h1' h3⟩
end
end Zn

namespace Zn
open PySem
section
variable {prog : Program} {w : World} {A : Around} {E : Value → Shared → Prop} {s : Shared}
theorem its_cons {b m : Nat} {cs : List (Nat × Array Value)} {x : Value} {rest : List Value} (er : x :: rest = (itsN b cs.length).toList.drop m) : m < cs.length ∧ x = .ref (b + m) ∧ rest = (itsN b cs.length).toList.drop (m + 1) := by
  have hlt' : m < cs.length := by
    apply Decidable.byContradiction
    intro z
    have : (itsN b cs.length).toList.drop m = [] := List.drop_eq_nil_of_le (by simp [itsN]; omega)
    rw [this] at er
    cases er
  refine ⟨hlt', ?_⟩
  rw [List.drop_eq_getElem_cons (by simp [itsN]; exact hlt')] at er
  have := List.cons.inj er
  exact ⟨by rw [this.1]; simp [itsN], this.2⟩
theorem its_nil {b m : Nat} {cs : List (Nat × Array Value)} (hm : m ≤ cs.length) (er : [] = (itsN b cs.length).toList.drop m) : m = cs.length := by
  have := congrArg List.length er
  simp [itsN] at this
  omega
theorem its_ne {b : Nat} {cs : List (Nat × Array Value)} (hn : cs ≠ []) : (itsN b cs.length).isEmpty = false := by
  unfold itsN
  cases cs with
  | nil => exact absurd rfl hn
  | cons q cs => simp
theorem Srcs.step {h' h2 : Heap} {b k m : Nat} {cs : List (Nat × Array Value)} {c : Nat} {xs : Array Value} (hsr : Srcs h' b cs k m) (e1 : cs[m]? = some (c, xs)) (hit2 : SrcIt h2 (b + m) c (k + 1) xs) (sb : Heap.SameBut (b + m) h' h2) : Srcs h2 b cs k (m + 1) := by
  refine ⟨fun j c' xs' hj => ?_, hsr.lo⟩
  by_cases hjm : j = m
  · subst hjm
    rw [e1] at hj
    cases hj
    rw [if_pos (Nat.lt_succ_self _)]
    exact hit2
  · have h0 := hsr.it j c' xs' hj
    have hc := hsr.lo j c' xs' hj
    have ee : (if j < m + 1 then k + 1 else k) = if j < m then k + 1 else k := by
      by_cases hh : j < m
      · rw [if_pos hh, if_pos (by omega)]
      · rw [if_neg hh, if_neg (by omega)]
    rw [ee]
    exact h0.at (fun o q => sb.extBut _ _ (ne_ (by omega)) q) fun o q => sb.extBut _ _ (ne_ (by omega)) q
theorem Srcs.all {h : Heap} {b k : Nat} {cs : List (Nat × Array Value)} (hsr : Srcs h b cs k cs.length) : Srcs h b cs (k + 1) 0 := ⟨fun j c xs hj => by
  have h0 := hsr.it j c xs hj
  rw [if_pos (List.getElem?_eq_some_iff.mp hj).1] at h0
  rw [if_neg (Nat.not_lt_zero _)]
  exact h0, hsr.lo⟩
theorem held_end {b z T : Nat} {cs : List (Nat × Array Value)} {k : Nat} {f : Bool} {oT : Obj} {Q : Fin → Shared → Prop} (hh : A.handled = none) (hz : IsZ s.heap z (b + cs.length) (b + cs.length + 1) (rawInt T) f) (hT : s.heap.get? T = some oT)
    (hzb : b + cs.length + 1 < z) (hTI : IsTupN s.heap (b + cs.length) (itsN b cs.length)) (hs : Srcs s.heap b cs k 0) (hend : ∃ q ∈ cs, q.2.size ≤ k)
    (hE : ∀ h' e, (∀ c o, c ≠ z → (c < b ∨ b + cs.length ≤ c) → s.heap.get? c = some o → h'.get? c = some o) → (∃ o, h'.get? e = some o ∧ o.cls = .type "StopIteration") → E (.ref e) { s with heap := h' }) :
    wpAny (model prog w) A (Builtin.«zip.__next__» ⟨[.ref z], []⟩) Q E s := by
  have some_ : (itsN b cs.length).isEmpty = false := its_ne (b := b) (cs := cs) (fun e => by rw [e] at hend; obtain ⟨q, hq, _⟩ := hend; cases hq)
  unfold Builtin.«zip.__next__»
  generalize free : Builtin.SmallTypes.ownedTupleIsFree = F
  wp_walk using wpAny_seqItems hTI rfl
  subst free
  apply wpAny_tupleHeld_zip hz hT
  intro h1 hz1 hs1
  simp only [Bool.false_eq_true, ↓reduceIte]
  refine wpAny_bind (wpAny_forIn_array' _ (fun rest st s' => ∃ (m : Nat) (h' : Heap), m ≤ cs.length ∧ rest = (itsN b cs.length).toList.drop m ∧ (∃ its, st = (none, its)) ∧ s' = { s with heap := h' } ∧ Srcs h' b cs k m ∧ (∀ j c xs, j < m → cs[j]? = some (c, xs) → k < xs.size) ∧ ∀ c o, c ≠ z → (c < b ∨ b + cs.length ≤ c) → s.heap.get? c = some o → h'.get? c = some o) _ ?_ ?_ _ _ ?_)
  · rintro x rest st s' ⟨m, h', hm, er, ⟨its, rfl⟩, rfl, hsr, hb, hk⟩
    obtain ⟨hlt', rfl, rfl⟩ := its_cons er
    obtain ⟨c, xs, e1⟩ : ∃ c xs, cs[m]? = some (c, xs) := ⟨_, _, List.getElem?_eq_getElem hlt'⟩
    have e3 := hsr.lo m c xs e1
    refine wpAny_bind (wpAny_holding ?_)
    show wpAny _ _ (Builtin.SmallTypes.nextOf (.ref (b + m)) >>= _) _ _ _
    have hit := hsr.it m c xs e1
    rw [if_neg (Nat.lt_irrefl _)] at hit
    cases e2 : xs[k]? with
    | some v =>
      refine wpAny_bind (next_item (s := { s with heap := h' }) hit (by omega) e2 fun h2 hit2 sb => wpAny_pure ?_)
      refine wpAny_pure ⟨m + 1, h2, hlt', rfl, ⟨_, rfl⟩, rfl, hsr.step e1 hit2 sb, fun j c' xs' hj ej => ?_, fun c o h1 h2 h3 => sb.extBut _ _ (ne_ (by omega)) (hk c o h1 h2 h3)⟩
      by_cases hjm : j = m
      · subst hjm
        rw [e1] at ej
        cases ej
        exact (Array.getElem?_eq_some_iff.mp e2).1
      · exact hb j c' xs' (by omega) ej
    | none =>
      exact wpAny_bind (next_end (s := { s with heap := h' }) hh hit e2 fun h2 e sb he => hE h2 e (fun c o h1 h2 h3 => sb _ _ (ne_ (by omega)) (hk c o h1 h2 h3)) he)
  · rintro st s' ⟨m, h', hm, er, ⟨its, rfl⟩, rfl, hsr, hb, hk⟩
    have := its_nil hm er
    subst this
    obtain ⟨q, hq, hqk⟩ := hend
    obtain ⟨j, hj⟩ := List.mem_iff_getElem?.mp hq
    have := hb j q.1 q.2 (List.getElem?_eq_some_iff.mp hj).1 hj
    omega
  · exact ⟨0, h1, Nat.zero_le _, rfl, ⟨_, rfl⟩, rfl, hs.same fun a o hl q => hs1.extBut _ _ (ne_ (by omega)) q, fun j c xs hj => by omega, fun c o h1' _ h3 => hs1.extBut _ _ h1' h3⟩
def upTO (cs : List (Nat × Array Value)) (os : Array Value) (k m : Nat) : Array Value := ((cs.take m).map (fun q => q.2[k]?.getD Value.none) ++ os.toList.drop m).toArray
theorem upTO_zero {cs : List (Nat × Array Value)} {os : Array Value} {k : Nat} : upTO cs os k 0 = os := by simp [upTO]
theorem upTO_all {cs : List (Nat × Array Value)} {os : Array Value} {k : Nat} (h : os.size = cs.length) : upTO cs os k cs.length = (cs.map fun q => q.2[k]?.getD Value.none).toArray := by
  unfold upTO
  rw [List.take_length, List.drop_eq_nil_of_le (by simp [h]), List.append_nil]
theorem upTO_size {cs : List (Nat × Array Value)} {os : Array Value} {k m : Nat} (h : os.size = cs.length) (hm : m ≤ cs.length) : (upTO cs os k m).size = cs.length := by
  simp [upTO]
  omega
theorem upTO_set {cs : List (Nat × Array Value)} {os : Array Value} {k m c : Nat} {xs : Array Value} {v : Value} (e1 : cs[m]? = some (c, xs)) (e2 : xs[k]? = some v) (h : m < os.size) : (upTO cs os k m).setIfInBounds m v = upTO cs os k (m + 1) := by
  have hm : m < cs.length := (List.getElem?_eq_some_iff.mp e1).1
  unfold upTO
  rw [List.setIfInBounds_toArray, List.take_add_one, e1, List.map_append]
  congr 1
  rw [List.set_append_right _ _ (by simp; omega)]
  have hl : m - ((cs.take m).map fun q => q.2[k]?.getD Value.none).length = 0 := by simp; omega
  rw [hl, List.drop_eq_getElem_cons (by simpa using h), List.append_assoc]
  congr 1
  simp [e2]
theorem free_item {b z : Nat} {cs : List (Nat × Array Value)} {os : Array Value} {k : Nat} {Q : Value → Shared → Prop} (hz : IsZ s.heap z (b + cs.length) (b + cs.length + 1) .none false)
    (hzb : b + cs.length + 1 < z) (hTI : IsTupN s.heap (b + cs.length) (itsN b cs.length)) (hTO : IsTupN s.heap (b + cs.length + 1) os) (hos : os.size = cs.length) (hs : Srcs s.heap b cs k 0) (hn : cs ≠ []) (hlt : ∀ q ∈ cs, k < q.2.size) (hsz : cs.length ≤ sizeLine)
    (hQ : ∀ h', IsZ h' z (b + cs.length) (b + cs.length + 1) (rawInt s.heap.objs.size) false → Srcs h' b cs (k + 1) 0 → IsTupN h' s.heap.objs.size (cs.map fun q => q.2[k]?.getD .none).toArray → IsTupN h' (b + cs.length + 1) (cs.map fun q => q.2[k]?.getD .none).toArray → h'.objs.size = s.heap.objs.size + 1 →
      (∀ c o, c ≠ z → c ≠ b + cs.length + 1 → (c < b ∨ b + cs.length ≤ c) → s.heap.get? c = some o → h'.get? c = some o) → Q (.ref s.heap.objs.size) { s with heap := h' }) :
    wpAny (model prog w) A (Builtin.«zip.__next__» ⟨[.ref z], []⟩) (fun fin s' => ∃ v, fin = .done (.ret v) ∧ Q v s') E s := by
  have some_ : (itsN b cs.length).isEmpty = false := its_ne (b := b) (cs := cs) hn
  unfold Builtin.«zip.__next__»
  generalize put : setField = S
  wp_walk using wpAny_seqItems hTI rfl
  subst put
  apply wpAny_setField_rec hz (by simp)
  intro g0 hz0 hs0
  replace hz0 : IsZ g0 z (b + cs.length) (b + cs.length + 1) .ellipsis false := hz0
  replace hs0 : Heap.SameBut z s.heap g0 := hs0
  have key : ∀ j, j < cs.length → ∃ c xs x, cs[j]? = some (c, xs) ∧ xs[k]? = some x ∧ c < b := fun j hj => by
    have e := List.getElem?_eq_getElem hj
    have l := hlt _ (List.getElem_mem hj)
    exact ⟨_, _, _, e, Array.getElem?_eq_getElem l, hs.lo j _ _ e⟩
  refine wpAny_bind (wpAny_forIn_list _ (fun rest st s' => ∃ (m : Nat) (h' : Heap), m ≤ cs.length ∧ rest = ((itsN b cs.length).toList.drop m).zipIdx m ∧ st = (none, ()) ∧ s' = { s with heap := h' } ∧ Srcs h' b cs k m ∧ IsZ h' z (b + cs.length) (b + cs.length + 1) .ellipsis false ∧ IsTupN h' (b + cs.length + 1) (upTO cs os k m) ∧ h'.objs.size = s.heap.objs.size ∧ ∀ c o, c ≠ z → c ≠ b + cs.length + 1 → (c < b ∨ b + cs.length ≤ c) → s.heap.get? c = some o → h'.get? c = some o) _ ?_ ?_ _ _ ?_)
  · rintro ⟨x, i⟩ rest st s' ⟨m, h', hm, er, rfl, rfl, hsr, hz', hT', hsz', hk⟩
    obtain ⟨rest', er1, ei, er2⟩ : ∃ rest', (itsN b cs.length).toList.drop m = x :: rest' ∧ i = m ∧ rest = rest'.zipIdx (m + 1) := by
      cases e : (itsN b cs.length).toList.drop m with
      | nil => rw [e] at er; cases er
      | cons y ys =>
        rw [e, List.zipIdx_cons] at er
        have := List.cons.inj er
        cases this.1
        exact ⟨ys, rfl, rfl, this.2⟩
    subst ei er2
    obtain ⟨hlt', rfl, rfl⟩ := its_cons er1.symm
    obtain ⟨c, xs, v, e1, e2, e3⟩ := key i hlt'
    refine wpAny_bind (wpAny_onRaise ?_)
    show wpAny _ _ (Builtin.SmallTypes.nextOf (.ref (b + i)) >>= _) _ _ _
    have hit := hsr.it i c xs e1
    rw [if_neg (Nat.lt_irrefl _)] at hit
    refine wpAny_bind (next_item (s := { s with heap := h' }) hit (by omega) e2 fun h2 hit2 sb => wpAny_pure ?_)
    have hT2 : IsTupN h2 (b + cs.length + 1) (upTO cs os k i) := sb.extBut _ _ (ne_ (by omega)) hT'
    refine wpAny_bind (wpAny_seqItems hT2 rfl ?_)
    have hus : (upTO cs os k i).size = cs.length := upTO_size hos hm
    refine wpAny_bind (wpAny_updateSeq (s := { s with heap := h2 }) hT2 rfl ?_ (by rw [hus]; exact hsz) (by rw [Array.size_setIfInBounds, hus]; omega))
    refine wpAny_bind (wpAny_letGo (wpAny_pure ?_))
    have e4 := Heap.get?_update_self (Obj.mapSeq (·.setIfInBounds i v)) hT2 rfl
    have sb2 : Heap.SameBut (b + cs.length + 1) h2 (h2.update (b + cs.length + 1) (Obj.mapSeq (·.setIfInBounds i v))) := Heap.SameBut.update ..
    refine ⟨i + 1, _, hlt', rfl, rfl, rfl, (hsr.step e1 hit2 sb).same fun a o hl q => sb2.extBut _ _ (ne_ (by omega)) q, sb2.extBut _ _ (ne_ (by omega)) (sb.extBut _ _ (ne_ (by omega)) hz'), ?_, by rw [sb2.1, sb.1]; exact hsz', fun c o h1 h2 h3 h4 => sb2.extBut _ _ (ne_ (by omega)) (sb.extBut _ _ (ne_ (by omega)) (hk c o h1 h2 h3 h4))⟩
    rw [← upTO_set e1 e2 (by omega)]
    simpa [Obj.mapSeq] using e4
  · rintro st s' ⟨m, h', hm, er, rfl, rfl, hsr, hz', hT', hsz', hk⟩
    have hme : m = cs.length := by
      refine its_nil (b := b) hm ?_
      cases e : (itsN b cs.length).toList.drop m with
      | nil => rfl
      | cons y ys => rw [e] at er; cases er
    subst hme
    rw [upTO_all hos] at hT'
    show wpAny _ _ (seqItems? _ >>= _) _ _ _
    refine wpAny_bind (wpAny_seqItems hT' rfl ?_)
    refine wpAny_bind (wpAny_newTuple ?_ (by simpa using hsz))
    have hzlt : z < h'.objs.size := Heap.lt_size hz'
    show wpAny _ _ (Builtin.SmallTypes.ownedTupleHandOut (.ref z) (.ref h'.objs.size) >>= _) _ _ _
    refine wpAny_bind ?_
    unfold Builtin.SmallTypes.ownedTupleHandOut
    have hz6 : IsZ (h'.push { cls := .type "tuple", data := .seq (cs.map fun q => q.2[k]?.getD Value.none).toArray }) z (b + cs.length) (b + cs.length + 1) .ellipsis false := Heap.get?_push_of_some _ hz'
    refine wpAny_bind (wpAny_setField_rec hz6 (by simp) fun h7 hz7 hs7 => ?_)
    replace hz7 : IsZ h7 z (b + cs.length) (b + cs.length + 1) (rawInt h'.objs.size) false := hz7
    refine wpAny_setField_rec hz7 (by simp) fun h8 hz8 hs8 => ?_
    replace hz8 : IsZ h8 z (b + cs.length) (b + cs.length + 1) (rawInt h'.objs.size) false := hz8
    replace hs7 : Heap.SameBut z (h'.push { cls := .type "tuple", data := .seq (cs.map fun q => q.2[k]?.getD Value.none).toArray }) h7 := hs7
    replace hs8 : Heap.SameBut z h7 h8 := hs8
    have up : ∀ c o, c ≠ z → h'.get? c = some o → h8.get? c = some o := fun c o c1 e => hs8.extBut _ _ c1 (hs7.extBut _ _ c1 (Heap.get?_push_of_some _ e))
    have hT8 : IsTupN h8 h'.objs.size (cs.map fun q => q.2[k]?.getD Value.none).toArray := hs8.extBut _ _ (Nat.ne_of_gt hzlt) (hs7.extBut _ _ (Nat.ne_of_gt hzlt) (Heap.get?_push_size _ rfl))
    have hz9 : h8.objs.size = h'.objs.size + 1 := by rw [hs8.1, hs7.1, Heap.size_push]
    refine wpAny_pure ⟨_, rfl, ?_⟩
    rw [hsz'] at hz8 hT8 hz9
    show Q (.ref h'.objs.size) { s with heap := h8 }
    rw [hsz']
    exact hQ h8 hz8 (hsr.all.same fun a o hl q => up a o (ne_ (by omega)) q) hT8 (up _ _ (ne_ (by omega)) hT') hz9 fun c o h1 h2 h3 h4 => up c o h1 (hk c o h1 h2 h3 h4)
  · exact ⟨0, g0, Nat.zero_le _, rfl, rfl, rfl, hs.same fun a o hl q => hs0.extBut _ _ (ne_ (by omega)) q, hz0, by rw [upTO_zero]; exact hs0.extBut _ _ (ne_ (by omega)) hTO, hs0.1, fun c o h1 _ _ h4 => hs0.extBut _ _ h1 h4⟩
theorem free_end {b z : Nat} {cs : List (Nat × Array Value)} {os : Array Value} {k : Nat} {Q : Fin → Shared → Prop} (hh : A.handled = none) (hz : IsZ s.heap z (b + cs.length) (b + cs.length + 1) .none false)
    (hzb : b + cs.length + 1 < z) (hTI : IsTupN s.heap (b + cs.length) (itsN b cs.length)) (hTO : IsTupN s.heap (b + cs.length + 1) os) (hos : os.size = cs.length) (hs : Srcs s.heap b cs k 0) (hend : ∃ q ∈ cs, q.2.size ≤ k) (hsz : cs.length ≤ sizeLine)
    (hE : ∀ h' e, (∀ c o, c ≠ z → c ≠ b + cs.length + 1 → (c < b ∨ b + cs.length ≤ c) → s.heap.get? c = some o → h'.get? c = some o) → (∃ o, h'.get? e = some o ∧ o.cls = .type "StopIteration") → E (.ref e) { s with heap := h' }) :
    wpAny (model prog w) A (Builtin.«zip.__next__» ⟨[.ref z], []⟩) Q E s := by
  have some_ : (itsN b cs.length).isEmpty = false := its_ne (b := b) (cs := cs) (fun e => by rw [e] at hend; obtain ⟨q, hq, _⟩ := hend; cases hq)
  unfold Builtin.«zip.__next__»
  generalize put : setField = S
  wp_walk using wpAny_seqItems hTI rfl
  subst put
  apply wpAny_setField_rec hz (by simp)
  intro g0 hz0 hs0
  replace hz0 : IsZ g0 z (b + cs.length) (b + cs.length + 1) .ellipsis false := hz0
  replace hs0 : Heap.SameBut z s.heap g0 := hs0
  refine wpAny_bind (wpAny_forIn_list _ (fun rest st s' => ∃ (m : Nat) (h' : Heap), m ≤ cs.length ∧ rest = ((itsN b cs.length).toList.drop m).zipIdx m ∧ st = (none, ()) ∧ s' = { s with heap := h' } ∧ Srcs h' b cs k m ∧ IsZ h' z (b + cs.length) (b + cs.length + 1) .ellipsis false ∧ IsTupN h' (b + cs.length + 1) (upTO cs os k m) ∧ (∀ j c xs, j < m → cs[j]? = some (c, xs) → k < xs.size) ∧ ∀ c o, c ≠ z → c ≠ b + cs.length + 1 → (c < b ∨ b + cs.length ≤ c) → s.heap.get? c = some o → h'.get? c = some o) _ ?_ ?_ _ _ ?_)
  · rintro ⟨x, i⟩ rest st s' ⟨m, h', hm, er, rfl, rfl, hsr, hz', hT', hb, hk⟩
    obtain ⟨rest', er1, ei, er2⟩ : ∃ rest', (itsN b cs.length).toList.drop m = x :: rest' ∧ i = m ∧ rest = rest'.zipIdx (m + 1) := by
      cases e : (itsN b cs.length).toList.drop m with
      | nil => rw [e] at er; cases er
      | cons y ys =>
        rw [e, List.zipIdx_cons] at er
        have := List.cons.inj er
        cases this.1
        exact ⟨ys, rfl, rfl, this.2⟩
    subst ei er2
    obtain ⟨hlt', rfl, rfl⟩ := its_cons er1.symm
    obtain ⟨c, xs, e1⟩ : ∃ c xs, cs[i]? = some (c, xs) := ⟨_, _, List.getElem?_eq_getElem hlt'⟩
    have e3 := hsr.lo i c xs e1
    refine wpAny_bind (wpAny_onRaise ?_)
    show wpAny _ _ (Builtin.SmallTypes.nextOf (.ref (b + i)) >>= _) _ _ _
    have hit := hsr.it i c xs e1
    rw [if_neg (Nat.lt_irrefl _)] at hit
    cases e2 : xs[k]? with
    | none =>
      refine wpAny_bind (next_end (s := { s with heap := h' }) hh hit e2 fun h2 e sb he => ?_)
      have hz2 : IsZ h2 z (b + cs.length) (b + cs.length + 1) .ellipsis false := sb _ _ (ne_ (by omega)) hz'
      obtain ⟨oe, hoe, hce⟩ := he
      have hez : e ≠ z := fun x => by subst x; rw [hz2] at hoe; cases hoe; simp at hce
      refine wpAny_setField_rec (s := { s with heap := h2 }) hz2 (by simp) fun h3 _ hs3 => hE h3 e (fun c o h1 h2 h3' h4 => hs3.extBut _ _ h1 (sb _ _ (ne_ (by omega)) (hk c o h1 h2 h3' h4))) ⟨oe, hs3.extBut _ _ hez hoe, hce⟩
    | some v =>
      refine wpAny_bind (next_item (s := { s with heap := h' }) hit (by omega) e2 fun h2 hit2 sb => wpAny_pure ?_)
      have hT2 : IsTupN h2 (b + cs.length + 1) (upTO cs os k i) := sb.extBut _ _ (ne_ (by omega)) hT'
      refine wpAny_bind (wpAny_seqItems hT2 rfl ?_)
      have hus : (upTO cs os k i).size = cs.length := upTO_size hos hm
      refine wpAny_bind (wpAny_updateSeq (s := { s with heap := h2 }) hT2 rfl ?_ (by rw [hus]; exact hsz) (by rw [Array.size_setIfInBounds, hus]; omega))
      refine wpAny_bind (wpAny_letGo (wpAny_pure ?_))
      have e4 := Heap.get?_update_self (Obj.mapSeq (·.setIfInBounds i v)) hT2 rfl
      have sb2 : Heap.SameBut (b + cs.length + 1) h2 (h2.update (b + cs.length + 1) (Obj.mapSeq (·.setIfInBounds i v))) := Heap.SameBut.update ..
      refine ⟨i + 1, _, hlt', rfl, rfl, rfl, (hsr.step e1 hit2 sb).same fun a o hl q => sb2.extBut _ _ (ne_ (by omega)) q, sb2.extBut _ _ (ne_ (by omega)) (sb.extBut _ _ (ne_ (by omega)) hz'), ?_, fun j c' xs' hj ej => ?_, fun c o h1 h2 h3 h4 => sb2.extBut _ _ (ne_ (by omega)) (sb.extBut _ _ (ne_ (by omega)) (hk c o h1 h2 h3 h4))⟩
      · rw [← upTO_set e1 e2 (by omega)]
        simpa [Obj.mapSeq] using e4
      · by_cases hjm : j = i
        · subst hjm
          rw [e1] at ej
          cases ej
          exact (Array.getElem?_eq_some_iff.mp e2).1
        · exact hb j c' xs' (by omega) ej
  · rintro st s' ⟨m, h', hm, er, rfl, rfl, hsr, hz', hT', hb, hk⟩
    have hme : m = cs.length := by
      refine its_nil (b := b) hm ?_
      cases e : (itsN b cs.length).toList.drop m with
      | nil => rfl
      | cons y ys => rw [e] at er; cases er
    subst hme
    obtain ⟨q, hq, hqk⟩ := hend
    obtain ⟨j, hj⟩ := List.mem_iff_getElem?.mp hq
    have := hb j q.1 q.2 (List.getElem?_eq_some_iff.mp hj).1 hj
    omega
  · exact ⟨0, g0, Nat.zero_le _, rfl, rfl, rfl, hs.same fun a o hl q => hs0.extBut _ _ (ne_ (by omega)) q, hz0, by rw [upTO_zero]; exact hs0.extBut _ _ (ne_ (by omega)) hTO, fun j c xs hj => by omega, fun c o h1 _ _ h4 => hs0.extBut _ _ h1 h4⟩
end
end Zn

namespace Zn
open PySem
structure Zst (h : Heap) (b : Nat) (cs : List (Nat × Array Value)) (k : Nat) : Prop where
  ti : IsTupN h (b + cs.length) (itsN b cs.length)
  sr : Srcs h b cs k 0
  st : (∃ os, IsZ h (b + cs.length + 2) (b + cs.length) (b + cs.length + 1) .none false ∧ IsTupN h (b + cs.length + 1) os ∧ os.size = cs.length) ∨ ∃ (T : Nat) (f : Bool) (oT : Obj), IsZ h (b + cs.length + 2) (b + cs.length) (b + cs.length + 1) (rawInt T) f ∧ h.get? T = some oT ∧ b + cs.length + 2 < T
theorem Zst.typ {s : Shared} {b : Nat} {cs : List (Nat × Array Value)} {k : Nat} (z : Zst s.heap b cs k) : s.TypeIs (.ref (b + cs.length + 2)) "zip" := by
  rcases z.st with ⟨os, h, _⟩ | ⟨T, f, oT, h, _⟩
  · exact ⟨_, h, rfl⟩
  · exact ⟨_, h, rfl⟩
theorem Zst.keep {h h' : Heap} {b : Nat} {cs : List (Nat × Array Value)} {k : Nat} (z : Zst h b cs k) (e : ∀ a o, a ≤ b + cs.length + 2 → h.get? a = some o → h'.get? a = some o) (e2 : ∀ a o, h.get? a = some o → ∃ o', h'.get? a = some o') : Zst h' b cs k := by
  refine ⟨e _ _ (by omega) z.ti, z.sr.same fun a o hl q => e a o (by omega) q, ?_⟩
  rcases z.st with ⟨os, h1, h2, h3⟩ | ⟨T, f, oT, h1, h2, h3⟩
  · exact .inl ⟨os, e _ _ (by omega) h1, e _ _ (by omega) h2, h3⟩
  · obtain ⟨o', ho⟩ := e2 T oT h2
    exact .inr ⟨T, f, o', e _ _ (by omega) h1, ho, h3⟩
theorem zip_no_len : typeLookup (.type "zip") "__len__" = pure none := by rw [typeLookup_type, builtinLookup_eq_fast]; kernel_rfl
theorem zip_no_hint : typeLookup (.type "zip") "__length_hint__" = pure none := by rw [typeLookup_type, builtinLookup_eq_fast]; kernel_rfl
section
variable {prog : Program} {w : World} {A : Around} {E : Value → Shared → Prop} {s : Shared}
theorem next_road {p : Nat} {Q : Option Value → Shared → Prop} (ty : s.TypeIs (.ref p) "zip")
    (own : wpAny (model prog w) A.in1 (Builtin.«zip.__next__» ⟨[.ref p], []⟩) (fun fin s' => ∃ v, fin = .done (.ret v) ∧ Q (some v) s') (fun e s' => ∃ a o, e = .ref a ∧ s'.heap.get? a = some o ∧ o.cls = .type "StopIteration" ∧ Q none s') s) :
    wpAny (model prog w) A (pyNext (.ref p)) Q E s := by
  unfold pyNext
  apply wpAny_bind
  apply wpAny_attempt
  apply wpAny_callSpecial?_slot ty F.slot_zip_next
  apply wpAny_call_entry F.slot_zip_next ty F.entry_zip_next _ (F.args_zip_next_1 _)
  apply wpAny_mono own
  · rintro _ s' ⟨v, rfl, q⟩
    exact ⟨v, rfl, wpAny_pure q⟩
  · rintro _ s' ⟨a, o, rfl, at_, stop, q⟩
    apply wpAny_bind
    exact wpAny_isInstance ⟨o, at_, stop⟩ isSubtype_stop (wpAny_pure q)
theorem zs_item {b : Nat} {cs : List (Nat × Array Value)} {k : Nat} {Q : Option Value → Shared → Prop} (z : Zst s.heap b cs k) (hlt : b + cs.length + 2 < s.heap.objs.size) (hn : cs ≠ []) (hk : ∀ q ∈ cs, k < q.2.size) (hsz : cs.length ≤ sizeLine)
    (hQ : ∀ h', Zst h' b cs (k + 1) → IsTupN h' s.heap.objs.size (cs.map fun q => q.2[k]?.getD .none).toArray → h'.objs.size = s.heap.objs.size + 1 → (∀ c o, (c < b ∨ b + cs.length + 2 < c) → s.heap.get? c = some o → h'.get? c = some o) → Q (some (.ref s.heap.objs.size)) { s with heap := h' }) :
    wpAny (model prog w) A (pyNext (.ref (b + cs.length + 2))) Q E s := by
  apply next_road z.typ
  rcases z.st with ⟨os, free, out, size⟩ | ⟨T, f, oT, held, there, below⟩
  · refine free_item free (by omega) z.ti out size z.sr hn hk hsz fun h' z1 sr new _ more keeps => ?_
    have ti := keeps _ _ (by omega) (by omega) (.inr (by omega)) z.ti
    exact hQ h' ⟨ti, sr, .inr ⟨_, _, _, z1, new, hlt⟩⟩ new more fun c o side e => keeps c o (by omega) (by omega) (by omega) e
  · refine held_item held there (by omega) z.ti z.sr hn hk hsz fun h' z1 sr new more keeps => ?_
    have ti := keeps _ _ (by omega) (.inr (by omega)) z.ti
    have last := keeps _ _ (by omega) (.inr (by omega)) there
    exact hQ h' ⟨ti, sr, .inr ⟨T, _, _, z1, last, below⟩⟩ new more fun c o side e => keeps c o (by omega) (by omega) e
theorem zs_end {b : Nat} {cs : List (Nat × Array Value)} {k : Nat} {Q : Option Value → Shared → Prop} (hh : A.in1.handled = none) (z : Zst s.heap b cs k) (hend : ∃ q ∈ cs, q.2.size ≤ k) (hsz : cs.length ≤ sizeLine)
    (hQ : ∀ h', (∀ c o, (c < b ∨ b + cs.length + 2 < c) → s.heap.get? c = some o → h'.get? c = some o) → Q none { s with heap := h' }) :
    wpAny (model prog w) A (pyNext (.ref (b + cs.length + 2))) Q E s := by
  apply next_road z.typ
  rcases z.st with ⟨os, free, out, size⟩ | ⟨T, f, oT, held, there, below⟩
  · refine free_end hh free (by omega) z.ti out size z.sr hend hsz fun h' a keeps ⟨o, at_, stop⟩ => ?_
    exact ⟨a, o, rfl, at_, stop, hQ h' fun c o side e => keeps c o (by omega) (by omega) (by omega) e⟩
  · refine held_end hh held there (by omega) z.ti z.sr hend fun h' a keeps ⟨o, at_, stop⟩ => ?_
    exact ⟨a, o, rfl, at_, stop, hQ h' fun c o side e => keeps c o (by omega) (by omega) e⟩
theorem zs_iter {b : Nat} {cs : List (Nat × Array Value)} {k : Nat} {Q : Value → Shared → Prop} (z : Zst s.heap b cs k) (h : Q (.ref (b + cs.length + 2)) s) : wpAny (model prog w) A (pyIter (.ref (b + cs.length + 2))) Q E s := by
  apply wpAny_pyIter_slot z.typ F.slot_zip_iter
  apply wpAny_call_entry F.slot_zip_iter z.typ F.entry_zip_iter _ (F.args_zip_iter_1 _)
  apply wpAny_pure
  exact ⟨_, rfl, "zip", _, z.typ, F.slot_zip_next.lookup, h⟩
end
structure Mde (cs : List (Nat × Array Value)) (lo : Nat) (h : Heap) (as : List Nat) : Prop where
  rise : as.Pairwise (· < ·)
  above : ∀ a ∈ as, lo < a
  there : ∀ (j a : Nat), as[j]? = some a → IsTupN h a (cs.map fun q => q.2[j]?.getD .none).toArray
section
variable {prog : Program} {w : World} {A : Around} {s : Shared} {R : Result → Shared → Prop}
theorem loop_road {S p : Nat} {res : Value}
    (turn : wpAny (model prog w) A.in1 (pyNext (.ref p)) (fun r s' => match r with
      | none => R (.ok (.ret res)) s'
      | some v => wpAny (model prog w) A.in1 (updateSeq S (·.push v)) (fun _ s2 => codeAny (model prog w) A (.builtin "list.extend.loop" ⟨[.ref S, .ref p, res], []⟩) R s2) (fun e s2 => R (.error e) s2) s') (fun e s' => R (.error e) s') s) :
    codeAny (model prog w) A (.builtin "list.extend.loop" ⟨[.ref S, .ref p, res], []⟩) R s := by
  apply codeAny_builtin PySem.F.entry_extend_loop
  have plain := Around.under_plainId (A := A) PySem.F.plain_extend_loop ⟨[.ref S, .ref p, res], []⟩
  rw [plain]
  apply wpAny_bind
  apply wpAny_mono turn _ fun _ _ z => z
  intro r s' h
  cases r with
  | none => exact wpAny_pure h
  | some v =>
    apply wpAny_bind
    apply wpAny_mono h _ fun _ _ z => z
    intro _ s2 on
    exact wpAny_pure ⟨plainId_quiet PySem.F.plain_extend_loop _, on⟩
theorem Mde.more {cs : List (Nat × Array Value)} {S n : Nat} {h h2 : Heap} {as : List Nat} (g : Mde cs S h as) (S0 : S < n) (low : ∀ a ∈ as, a < n) (keep : ∀ a o, S < a → h.get? a = some o → h2.get? a = some o) (new : IsTupN h2 n (cs.map fun q => q.2[as.length]?.getD .none).toArray) : Mde cs S h2 (as ++ [n]) := by
  refine ⟨List.pairwise_append.mpr ⟨g.rise, List.pairwise_singleton _ _, fun a ha c hc => ?_⟩, fun a ha => ?_, fun j a hj => ?_⟩
  · rw [List.mem_singleton.mp hc]
    exact low a ha
  · rcases List.mem_append.mp ha with h1 | h1
    · exact g.above a h1
    · rw [List.mem_singleton.mp h1]
      exact S0
  · have lt := (List.getElem?_eq_some_iff.mp hj).1
    simp only [List.length_append, List.length_singleton] at lt
    by_cases last : j = as.length
    · subst last
      obtain rfl : n = a := by simpa using hj
      exact new
    · rw [List.getElem?_append_left (by omega)] at hj
      exact keep a _ (g.above a (List.mem_of_getElem? hj)) (g.there j a hj)
theorem loopZ {b S n : Nat} {cs : List (Nat × Array Value)} (hh : A.in1.handled = none) (hn : cs ≠ []) (hsz : cs.length ≤ sizeLine) (hS : b + cs.length + 2 < S) (res : Value) {h1 : Heap} (hl : ∀ q ∈ cs, n ≤ q.2.size) (he : ∃ q ∈ cs, q.2.size ≤ n) (hns : n ≤ sizeLine)
    (hR : ∀ h' acc c as, (∀ a o, a < b → h1.get? a = some o → h'.get? a = some o) → h'.get? S = some { cls := .type "list", dict := none, data := .seq acc c, slots := #[] } → as.length = n → Mde cs S h' as → acc.toList = as.map Value.ref → R (.ok (.ret res)) { s with heap := h' }) :
    ∀ (k i : Nat) (h : Heap) (c : Nat) (acc : Array Value) (as : List Nat), n - i = k → i ≤ n → Zst h b cs i → (∀ a o, a < b → h1.get? a = some o → h.get? a = some o) →
      h.get? S = some { cls := .type "list", dict := none, data := .seq acc c, slots := #[] } → acc.toList = as.map Value.ref → as.length = i → Mde cs S h as →
      codeAny (model prog w) A (.builtin "list.extend.loop" ⟨[.ref S, .ref (b + cs.length + 2), res], []⟩) R { s with heap := h } := by
  intro k
  induction k with
  | zero =>
    intro i h c acc as hk hi z hkeep hSl hacc hal hG
    obtain rfl : i = n := by omega
    apply loop_road
    refine zs_end (s := { s with heap := h }) (A := A.in1) hh z he hsz fun h' far => ?_
    have made : Mde cs S h' as := ⟨hG.rise, hG.above, fun j a hj => far a _ (.inr (Nat.lt_trans hS (hG.above a (List.mem_of_getElem? hj)))) (hG.there j a hj)⟩
    exact hR h' acc c as (fun a o ha e => far a o (.inl ha) (hkeep a o ha e)) (far S _ (.inr hS) hSl) hal made hacc
  | succ k ih =>
    intro i h c acc as hk hi z hkeep hSl hacc hal hG
    have on : i < n := by omega
    have top : S < h.objs.size := Heap.lt_size hSl
    have many : acc.size = i := by simpa [hal] using congrArg List.length hacc
    apply loop_road
    refine zs_item (s := { s with heap := h }) (A := A.in1) z (show _ < h.objs.size by omega) hn (fun q hq => Nat.lt_of_lt_of_le on (hl q hq)) hsz fun h' z' new size far => ?_
    have inS := far S _ (.inr hS) hSl
    have put := Heap.get?_update_self (Obj.mapSeq (·.push (.ref h.objs.size))) inS rfl
    have rest : ∀ a o, a ≠ S → h'.get? a = some o → (h'.update S (Obj.mapSeq (·.push (.ref h.objs.size)))).get? a = some o := fun a o ha e => by
      rw [Heap.get?_update_other _ _ (Ne.symm ha)]
      exact e
    refine wpAny_updateSeq (s := { s with heap := h' }) inS rfl ?_ (by omega) (by rw [Array.size_push]; omega)
    refine ih (i + 1) _ _ _ (as ++ [h.objs.size]) (by omega) on (z'.keep (fun a o ha e => rest a o (ne_ (by omega)) e) fun a o e => ?_) (fun a o ha e => rest a o (ne_ (by omega)) (far a o (.inl ha) (hkeep a o ha e))) put (by simp [hacc]) (by simp [hal]) ?_
    · by_cases ha : a = S
      · rw [ha]
        exact ⟨_, put⟩
      · exact ⟨o, rest a o ha e⟩
    · refine hG.more top (fun a ha => ?_) (fun a o ha e => rest a o (ne_ (by omega)) (far a o (.inr (by omega)) e)) ?_
      · obtain ⟨j, hj⟩ := List.mem_iff_getElem?.mp ha
        exact Heap.lt_size (hG.there j a hj)
      · rw [hal]
        exact rest _ _ (ne_ (by omega)) new
theorem extZ {b S n : Nat} {cs : List (Nat × Array Value)} (hh : A.in1.handled = none) (hn : cs ≠ []) (hsz : cs.length ≤ sizeLine) (hS : b + cs.length + 2 < S) (res : Value) (hl : ∀ q ∈ cs, n ≤ q.2.size) (he : ∃ q ∈ cs, q.2.size ≤ n) (hns : n ≤ sizeLine) (z : Zst s.heap b cs 0) (c0 : Nat) (hSl : s.heap.get? S = some { cls := .type "list", data := .seq #[] c0 })
    (hR : ∀ h' acc c as, (∀ a o, a < b → s.heap.get? a = some o → h'.get? a = some o) → h'.get? S = some { cls := .type "list", dict := none, data := .seq acc c, slots := #[] } → as.length = n → Mde cs S h' as → acc.toList = as.map Value.ref → R (.ok (.ret res)) { s with heap := h' }) :
    wpAny (model prog w) A.in1 (Builtin.List.listExtendWith (.ref S) (.ref (b + cs.length + 2)) res)
      (fun fin s' => match fin with | .done f => R (.ok f) s' | .again c' => c'.quiet = true ∧ codeAny (model prog w) A c' R s') (fun e s' => R (.error e) s') s := by
  have other : Builtin.List.listSameRef (.ref S) (.ref (b + cs.length + 2)) = false := by
    have ne : S ≠ b + cs.length + 2 := by omega
    simp [Builtin.List.listSameRef, ne]
  have ty := z.typ
  have n1 : (Value.type "zip" == Value.type "list") = false := by decide
  have n2 : (Value.type "zip" == Value.type "tuple") = false := by decide
  have n3 := zip_no_len
  have n4 := zip_no_hint
  unfold Builtin.List.listExtendWith
  generalize hPI : pyIter = PI
  wp_walk
  subst hPI
  apply zs_iter z
  unfold Builtin.List.listLengthHint Builtin.List.listTouch Builtin.List.listUpdate
  generalize hU : updateSeq = U
  wp_walk
  subst hU
  have once := Heap.get?_update_self (Obj.mapSeq (·.push Value.none)) hSl rfl
  have twice := Heap.get?_update_self (Obj.mapSeq (·.pop)) once rfl
  have rest : ∀ a o, a ≠ S → s.heap.get? a = some o → ((s.heap.update S (Obj.mapSeq (·.push Value.none))).update S (Obj.mapSeq (·.pop))).get? a = some o := fun a o ha e => by
    rw [Heap.get?_update_other _ _ (Ne.symm ha), Heap.get?_update_other _ _ (Ne.symm ha)]
    exact e
  apply wpAny_updateSeq hSl rfl
  apply wpAny_updateSeq (hz := by seq_fits) once rfl
  apply wpAny_pure
  refine ⟨plainId_quiet PySem.F.plain_extend_loop _, loopZ hh hn hsz hS res hl he hns hR n 0 _ _ #[] [] (Nat.sub_zero _) (Nat.zero_le _) (z.keep (fun a o ha e => rest a o (ne_ (by omega)) e) fun a o e => ?_) (fun a o ha e => rest a o (ne_ (by omega)) e) twice rfl rfl ⟨.nil, by simp, by simp⟩⟩
  by_cases ha : a = S
  · rw [ha]
    exact ⟨_, twice⟩
  · exact ⟨o, rest a o ha e⟩
end
section
variable {prog : Program} {w : World} {A : Around} {E : Value → Shared → Prop} {s : Shared}
theorem call_list_zip {b n : Nat} {cs : List (Nat × Array Value)} {Q : Value → Shared → Prop} (hh : A.handled = none) (hn : cs ≠ []) (hsz : cs.length ≤ sizeLine) (hb : b + cs.length + 2 < s.heap.objs.size) (hl : ∀ q ∈ cs, n ≤ q.2.size) (he : ∃ q ∈ cs, q.2.size ≤ n) (hns : n ≤ sizeLine) (z : Zst s.heap b cs 0)
    (hQ : ∀ h' acc c as, (∀ a o, a < b → s.heap.get? a = some o → h'.get? a = some o) → h'.get? s.heap.objs.size = some { cls := .type "list", dict := none, data := .seq acc c, slots := #[] } → as.length = n → Mde cs s.heap.objs.size h' as → acc.toList = as.map Value.ref → Q (.ref s.heap.objs.size) { s with heap := h' }) :
    wpAny (model prog w) A (call (.type "list") [.ref (b + cs.length + 2)]) Q E s := by
  apply callType_codes (Q₁ := fun v s₁ => v = .ref s.heap.objs.size ∧ s₁ = { s with heap := s.heap.push { cls := .type "list", data := .seq #[] } }) PySem.F.called_list (PySem.F.typeCall_list_1 _) PySem.F.entry_list_init (PySem.code_list_new _ ⟨rfl, rfl⟩)
  rintro _ _ ⟨rfl, rfl⟩
  have fresh : (s.heap.push { cls := .type "list", data := .seq #[] }).get? s.heap.objs.size = some { cls := .type "list", data := .seq #[] } := Heap.get?_push_size _ rfl
  have bare := Heap.get?_update_self (Obj.mapSeq fun _ => #[]) fresh rfl
  have old : ∀ a o, s.heap.get? a = some o → ((s.heap.push { cls := .type "list", data := .seq #[] }).update s.heap.objs.size (Obj.mapSeq fun _ => #[])).get? a = some o := fun a o e => by
    rw [Heap.get?_update_other _ _ (Nat.ne_of_gt (Heap.lt_size e))]
    exact Heap.get?_push_of_some _ e
  refine ⟨⟨_, fresh, rfl⟩, PySem.F.args_list_init_2 _ _, ?_⟩
  unfold Builtin.«list.__init__»
  generalize hX : Builtin.List.listExtendWith = X
  unfold Builtin.List.listItems Builtin.List.listUpdate
  generalize hU : updateSeq = U
  wp_walk using wpAny_seqItems fresh rfl
  subst hU hX
  apply wpAny_updateSeq fresh rfl
  apply wpAny_bind
  apply wpAny_letGo
  refine extZ (A := A.in1) hh hn hsz hb .none hl he hns (z.keep (fun a o _ e => old a o e) fun a o e => ⟨o, old a o e⟩) _ bare fun h' acc c as far inS many made items => ?_
  exact ⟨rfl, hQ h' acc c as (fun a o ha e => far a o ha (old a o e)) inS many made items⟩
end
end Zn

namespace Zn
open PySem PySem.F
theorem typeCall_zip (as : List Value) : checkTypeCall "zip" ⟨as, []⟩ = pure () := by kernel_rfl
theorem newCall_zip : ∀ (as : List Value), as.length ≤ 16 → checkBuiltinCall "zip.__new__" ⟨.type "zip" :: as, []⟩ = pure ()
  | [], _ => by kernel_rfl
  | [_], _ => by kernel_rfl
  | [_, _], _ => by kernel_rfl
  | [_, _, _], _ => by kernel_rfl
  | [_, _, _, _], _ => by kernel_rfl
  | [_, _, _, _, _], _ => by kernel_rfl
  | [_, _, _, _, _, _], _ => by kernel_rfl
  | [_, _, _, _, _, _, _], _ => by kernel_rfl
  | [_, _, _, _, _, _, _, _], _ => by kernel_rfl
  | [_, _, _, _, _, _, _, _, _], _ => by kernel_rfl
  | [_, _, _, _, _, _, _, _, _, _], _ => by kernel_rfl
  | [_, _, _, _, _, _, _, _, _, _, _], _ => by kernel_rfl
  | [_, _, _, _, _, _, _, _, _, _, _, _], _ => by kernel_rfl
  | [_, _, _, _, _, _, _, _, _, _, _, _, _], _ => by kernel_rfl
  | [_, _, _, _, _, _, _, _, _, _, _, _, _, _], _ => by kernel_rfl
  | [_, _, _, _, _, _, _, _, _, _, _, _, _, _, _], _ => by kernel_rfl
  | [_, _, _, _, _, _, _, _, _, _, _, _, _, _, _, _], _ => by kernel_rfl
  | _ :: _ :: _ :: _ :: _ :: _ :: _ :: _ :: _ :: _ :: _ :: _ :: _ :: _ :: _ :: _ :: _ :: _, h => by simp at h
theorem args_oinit (a : Value) (as : List Value) (few : as.length ≤ 16) : argsOk "object.__init__" ⟨a :: as, []⟩ := by
  unfold argsOk
  rw [signature?_of (id := "object.__init__") (n := "__tini__".toList) (o := "tcejbo".toList) (by kernel_rfl) owner_object]
  exact match as, few with
  | [], _ => by kernel_rfl
  | [_], _ => by kernel_rfl
  | [_, _], _ => by kernel_rfl
  | [_, _, _], _ => by kernel_rfl
  | [_, _, _, _], _ => by kernel_rfl
  | [_, _, _, _, _], _ => by kernel_rfl
  | [_, _, _, _, _, _], _ => by kernel_rfl
  | [_, _, _, _, _, _, _], _ => by kernel_rfl
  | [_, _, _, _, _, _, _, _], _ => by kernel_rfl
  | [_, _, _, _, _, _, _, _, _], _ => by kernel_rfl
  | [_, _, _, _, _, _, _, _, _, _], _ => by kernel_rfl
  | [_, _, _, _, _, _, _, _, _, _, _], _ => by kernel_rfl
  | [_, _, _, _, _, _, _, _, _, _, _, _], _ => by kernel_rfl
  | [_, _, _, _, _, _, _, _, _, _, _, _, _], _ => by kernel_rfl
  | [_, _, _, _, _, _, _, _, _, _, _, _, _, _], _ => by kernel_rfl
  | [_, _, _, _, _, _, _, _, _, _, _, _, _, _, _], _ => by kernel_rfl
  | [_, _, _, _, _, _, _, _, _, _, _, _, _, _, _, _], _ => by kernel_rfl
  | _ :: _ :: _ :: _ :: _ :: _ :: _ :: _ :: _ :: _ :: _ :: _ :: _ :: _ :: _ :: _ :: _ :: _, h => by simp at h
end Zn

namespace Zn
open PySem PySem.F
def SrcV (h : Heap) (c : Nat) (xs : Array Value) : Prop := h.IsList c xs ∨ h.IsTuple c xs
theorem SrcV.at {h h' : Heap} {c : Nat} {xs : Array Value} (v : SrcV h c xs) (k : ∀ o, h.get? c = some o → h'.get? c = some o) : SrcV h' c xs := by
  rcases v with a | a
  · exact .inl (a.at k)
  · exact .inr (a.at k)
section
variable {prog : Program} {w : World} {A : Around} {E : Value → Shared → Prop} {s : Shared}
theorem iter_src {c : Nat} {xs : Array Value} {Q : Value → Shared → Prop} (v : SrcV s.heap c xs)
    (h : ∀ h', SrcIt h' s.heap.objs.size c 0 xs → h'.objs.size = s.heap.objs.size + 1 → (∀ a o, s.heap.get? a = some o → h'.get? a = some o) → Q (.ref s.heap.objs.size) { s with heap := h' }) : wpAny (model prog w) A (pyIter (.ref c)) Q E s := by
  rcases v with a | a
  · exact wpAny_pyIter_list a (h _ (.inl ⟨⟨_, Heap.get?_push_size _ rfl, rfl, rfl⟩, a.at fun o e => Heap.get?_push_of_some _ e⟩) (Heap.size_push ..) fun b o e => Heap.get?_push_of_some _ e)
  · exact wpAny_pyIter_tuple a (h _ (.inr ⟨⟨_, Heap.get?_push_size _ rfl, rfl, rfl⟩, a.at fun o e => Heap.get?_push_of_some _ e⟩) (Heap.size_push ..) fun b o e => Heap.get?_push_of_some _ e)
theorem iterAll_src {cs : List (Nat × Array Value)} {Q : List Value → Shared → Prop} (hv : ∀ q ∈ cs, SrcV s.heap q.1 q.2) (hlo : ∀ q ∈ cs, q.1 < s.heap.objs.size)
    (h : ∀ h', Srcs h' s.heap.objs.size cs 0 0 → h'.objs.size = s.heap.objs.size + cs.length → (∀ a o, s.heap.get? a = some o → h'.get? a = some o) → Q (itsN s.heap.objs.size cs.length).toList { s with heap := h' }) :
    wpAny (model prog w) A (Builtin.SmallTypes.iterAll (cs.map fun q => .ref q.1)) Q E s := by
  unfold Builtin.SmallTypes.iterAll
  refine wpAny_bind (wpAny_forIn_list _ (fun rest st s' => ∃ (m : Nat) (h' : Heap), m ≤ cs.length ∧ rest = (cs.drop m).map (fun q => Value.ref q.1) ∧ st = (itsN s.heap.objs.size m) ∧ s' = { s with heap := h' } ∧ (∀ j c xs, j < m → cs[j]? = some (c, xs) → SrcIt h' (s.heap.objs.size + j) c 0 xs) ∧ h'.objs.size = s.heap.objs.size + m ∧ ∀ a o, s.heap.get? a = some o → h'.get? a = some o) _ ?_ ?_ _ _ ?_)
  · rintro x rest st s' ⟨m, h', hm, er, rfl, rfl, hsr, hsz, hk⟩
    have hlt : m < cs.length := by
      apply Decidable.byContradiction
      intro z
      rw [List.drop_eq_nil_of_le (by omega)] at er
      cases er
    rw [List.drop_eq_getElem_cons hlt, List.map_cons] at er
    obtain ⟨rfl, rfl⟩ := List.cons.inj er
    have e1 := List.getElem?_eq_getElem hlt
    have hq := List.getElem_mem hlt
    refine wpAny_bind (wpAny_holding (iter_src (s := { s with heap := h' }) ((hv _ hq).at fun o e => hk _ o e) fun h2 hit hz hk2 => wpAny_pure ⟨m + 1, h2, hlt, rfl, ?_, rfl, fun j c xs hj ej => ?_, ?_, fun a o e => hk2 a o (hk a o e)⟩))
    · show (itsN s.heap.objs.size m).push (.ref h'.objs.size) = _
      rw [hsz]
      unfold itsN
      rw [List.range_succ, List.map_append]
      simp
    · by_cases hjm : j = m
      · subst hjm
        rw [e1] at ej
        have := Option.some.inj ej
        have hit' : SrcIt h2 h'.objs.size cs[j].1 0 cs[j].2 := hit
        rw [this, hsz] at hit'
        exact hit'
      · exact (hsr j c xs (by omega) ej).at (fun o e => hk2 _ o e) fun o e => hk2 _ o e
    · rw [hz]
      show h'.objs.size + 1 = _
      omega
  · rintro st s' ⟨m, h', hm, er, rfl, rfl, hsr, hsz, hk⟩
    have : m = cs.length := by
      have := congrArg List.length er
      simp at this
      omega
    subst this
    exact wpAny_pure (h h' ⟨fun j c xs hj => by rw [if_neg (Nat.not_lt_zero _)]; exact hsr j c xs (List.getElem?_eq_some_iff.mp hj).1 hj, fun j c xs hj => hlo _ (List.mem_of_getElem? hj)⟩ hsz hk)
  · exact ⟨0, s.heap, Nat.zero_le _, rfl, rfl, rfl, fun j c xs hj => by omega, rfl, fun _ _ e => e⟩
end
def FreeZ (h : Heap) (b : Nat) (cs : List (Nat × Array Value)) : Prop := ∃ os, IsZ h (b + cs.length + 2) (b + cs.length) (b + cs.length + 1) .none false ∧ IsTupN h (b + cs.length + 1) os ∧ os.size = cs.length
theorem zip_new (cs : List (Nat × Array Value)) : Meets (Builtin.«zip.__new__» ⟨.type "zip" :: cs.map (fun q => .ref q.1), []⟩) (fun _ R s => (∀ q ∈ cs, SrcV s.heap q.1 q.2) ∧ (∀ q ∈ cs, q.1 < s.heap.objs.size) ∧ cs.length ≤ sizeLine ∧
    ∀ h', Zst h' s.heap.objs.size cs 0 → h'.objs.size = s.heap.objs.size + cs.length + 3 → (∀ a o, s.heap.get? a = some o → h'.get? a = some o) → FreeZ h' s.heap.objs.size cs → R (.ok (.ret (.ref (s.heap.objs.size + cs.length + 2)))) { s with heap := h' }) :=
  .of_wp fun prog w A R s h => by
    obtain ⟨hv, hlo, hsz, h⟩ := h
    have hsub := sub_zip
    have go : ∀ {A' : Around} {E : Value → Shared → Prop} {Q : List Value → Shared → Prop}, (∀ h', Srcs h' s.heap.objs.size cs 0 0 → h'.objs.size = s.heap.objs.size + cs.length → (∀ a o, s.heap.get? a = some o → h'.get? a = some o) → Q (itsN s.heap.objs.size cs.length).toList { s with heap := h' }) →
      wpAny (model prog w) A' (Builtin.SmallTypes.iterAll (cs.map fun q => .ref q.1)) Q E s := fun q => iterAll_src hv hlo q
    unfold Builtin.«zip.__new__» Builtin.SmallTypes.newClass
    wp_walk using go
    intro h1 hs1 hz1 hk1
    have hl : (itsN s.heap.objs.size cs.length).toList.length = cs.length := by simp [itsN]
    refine wpAny_bind (wpAny_newTuple ?_ (by rw [hl]; exact hsz))
    refine wpAny_bind (wpAny_newTuple ?_ (by rw [List.length_map, hl]; exact hsz))
    refine wpAny_bind ?_
    show wpAny _ _ (newObj (.type "zip") (.fields #[.none, .bool false, .bool false, .ref h1.objs.size, .ref (h1.push _).objs.size])) _ _ _
    refine wpAny_newObj_type ?_
    refine wpAny_pure ⟨_, rfl, ?_⟩
    dsimp only
    rw [Heap.size_push, Heap.size_push, hz1]
    have e2 : ∀ o1 o2 o3 : Obj, ∀ a o, h1.get? a = some o → (((h1.push o1).push o2).push o3).get? a = some o := fun o1 o2 o3 a o e => Heap.get?_push_of_some _ (Heap.get?_push_of_some _ (Heap.get?_push_of_some _ e))
    refine h _ ⟨?ka, hs1.same fun a o _ e => e2 _ _ _ a o e, .inl ?kf⟩ ?kb (fun a o e => e2 _ _ _ a o (hk1 a o e)) ?kf
    case kf =>
      refine ⟨((itsN s.heap.objs.size cs.length).toList.map fun _ => Value.none).toArray, ?_, ?_, ?_⟩
      · have := Heap.get?_push_size ((h1.push { cls := .type "tuple", data := .seq (itsN s.heap.objs.size cs.length).toList.toArray }).push { cls := .type "tuple", data := .seq ((itsN s.heap.objs.size cs.length).toList.map fun _ => Value.none).toArray }) (o := { cls := .type "zip", data := .fields #[.none, .bool false, .bool false, .ref (s.heap.objs.size + cs.length), .ref (s.heap.objs.size + cs.length + 1)] }) rfl
        rw [Heap.size_push, Heap.size_push, hz1] at this
        exact this
      · have := Heap.get?_push_size (h1.push { cls := .type "tuple", data := .seq (itsN s.heap.objs.size cs.length).toList.toArray }) (o := { cls := .type "tuple", data := .seq ((itsN s.heap.objs.size cs.length).toList.map fun _ => Value.none).toArray }) rfl
        rw [Heap.size_push, hz1] at this
        exact Heap.get?_push_of_some _ this
      · simp [itsN]
    case ka =>
      have := Heap.get?_push_size h1 (o := { cls := .type "tuple", data := .seq (itsN s.heap.objs.size cs.length).toList.toArray }) rfl
      rw [hz1, Array.toArray_toList] at this
      exact Heap.get?_push_of_some _ (Heap.get?_push_of_some _ this)
    case kb =>
      rw [Heap.size_push, Heap.size_push, Heap.size_push, hz1]
section
variable {prog : Program} {w : World} {A : Around} {E : Value → Shared → Prop} {s : Shared}
theorem call_zip {cs : List (Nat × Array Value)} {Q : Value → Shared → Prop} (hv : ∀ q ∈ cs, SrcV s.heap q.1 q.2) (hl : cs.length ≤ 16)
    (h : ∀ h', Zst h' s.heap.objs.size cs 0 → h'.objs.size = s.heap.objs.size + cs.length + 3 → (∀ a o, s.heap.get? a = some o → h'.get? a = some o) → FreeZ h' s.heap.objs.size cs → Q (.ref (s.heap.objs.size + cs.length + 2)) { s with heap := h' }) :
    wpAny (model prog w) A (call (.type "zip") (cs.map fun q => .ref q.1)) Q E s := by
  have hlo : ∀ q ∈ cs, q.1 < s.heap.objs.size := fun q hq => by
    rcases hv q hq with ⟨o, e, _⟩ | ⟨o, e, _⟩
    · exact Heap.lt_size e
    · exact Heap.lt_size e
  refine callType_new F.called_zip (by decide) (typeCall_zip _) (newCall_zip _ (by simpa using hl)) (fun obj => args_oinit obj _ (by simpa using hl)) F.entry_zip_new (zip_new cs) ⟨hv, hlo, Nat.le_trans hl (by decide), fun h' z hz hk fz => ?_⟩
  exact ⟨z.typ (s := { s with heap := h' }), h h' z hz hk fz⟩
end
end Zn

namespace Zn
open PySem PySem.Spec PyProof.Rows L2
def Sq2 (K : PySem.W.Frag) (H : Hp) (a : Addr) (xs : List V) : Prop := SqL K H a xs ∨ SqT K H a xs
structure Hold (cs : List (Nat × Array Value)) (xss : List (List V)) : Prop where
  len : cs.length = xss.length
  at_ : ∀ (j : Nat) (c : Nat) (its : Array Value) (xs : List V), cs[j]? = some (c, its) → xss[j]? = some xs → Vals xs its.toList
abbrev TZ := L2.St → Hp → (List (List V) → Hp → Prop) → Prop
def ZipAt (X : Cx) (pins : List (Addr × Obj)) (σ : L2.St) (v : Value) (s' : Shared) (Q : List (List V) → Hp → Prop) : Prop := ∃ (s1 : Shared) (h1 : Heap) (cs : List (Nat × Array Value)) (xss : List (List V)) (H1 : Hp), s' = { s1 with heap := h1 } ∧ v = .ref (s1.heap.objs.size + cs.length + 2) ∧ Zst h1 s1.heap.objs.size cs 0 ∧ h1.objs.size = s1.heap.objs.size + cs.length + 3 ∧
  (∀ a o, s1.heap.get? a = some o → h1.get? a = some o) ∧ Inv X pins σ H1 s1 ∧ Hold cs xss ∧ cs ≠ [] ∧ cs.length ≤ 16 ∧ FreeZ h1 s1.heap.objs.size cs ∧ Q xss H1
def PZ (X : Cx) (e : Expr) (t : TZ) : Prop := ∀ (pins : List (Addr × Obj)) (s : Shared) (σ : L2.St) (H : Hp) (Q : List (List V) → Hp → Prop), Inv X pins σ H s → t σ H Q →
  wpAny (model X.prog X.w) X.A (eval e X.env) (fun v s' => ZipAt X pins σ v s' Q) X.xe s
inductive Refs (K : PySem.W.Frag) (H : Hp) : List V → List (List V) → Prop
  | nil : Refs K H [] []
  | cons {a : Addr} {xs : List V} {vs : List V} {xss : List (List V)} : Sq2 K H a xs → Refs K H vs xss → Refs K H (.ref a :: vs) (xs :: xss)
def tZa (K : PySem.W.Frag) (ta : TA) : TZ := fun σ H Q => ta σ H fun vs H1 => ∃ xss, Refs K H1 vs xss ∧ xss ≠ [] ∧ xss.length ≤ 16 ∧ Q xss H1
theorem refs_srcs {X : Cx} {pins : List (Addr × Obj)} {s : Shared} {σ : L2.St} {H : Hp} (I : Inv X pins σ H s) : ∀ {vs : List V} {xss : List (List V)} {us : List Value}, Refs X.K H vs xss → Vals vs us → ∃ cs : List (Nat × Array Value), us = cs.map (fun q => .ref q.1) ∧ (∀ q ∈ cs, SrcV s.heap q.1 q.2) ∧ Hold cs xss
  | _, _, _, .nil, .nil => ⟨[], rfl, (fun q hq => nomatch hq), rfl, fun j c its xs h => nomatch h⟩
  | _, _, _, .cons (a := a) (xs := xs) h t, .cons r rr => by
    obtain ⟨cs, rfl, h1, h2⟩ := refs_srcs I t rr
    cases r
    obtain ⟨its, rv, sv⟩ : ∃ its : List Value, Vals xs its ∧ SrcV s.heap a its.toArray := by
      rcases h with h | h
      · obtain ⟨its, rv, p, hz⟩ := I.list h
        exact ⟨its, rv, .inl p.isList⟩
      · obtain ⟨its, rv, p, hz⟩ := I.tuple h
        exact ⟨its, rv, .inr p⟩
    refine ⟨(a, its.toArray) :: cs, rfl, fun q hq => ?_, ?_, fun j c i2 x2 hj hx => ?_⟩
    · rcases List.mem_cons.mp hq with rfl | hq
      · exact sv
      · exact h1 q hq
    · simp [h2.len]
    · cases j with
      | zero =>
        simp at hj hx
        obtain ⟨rfl, rfl⟩ := hj
        subst hx
        simpa using rv
      | succ j => exact h2.at_ j c i2 x2 (by simpa using hj) (by simpa using hx)
section
variable {X : Cx}
theorem zip_run {pins : List (Addr × Obj)} {s : Shared} {σ : L2.St} {H : Hp} {Q : List (List V) → Hp → Prop} {vs : List V} {us : List Value} {xss : List (List V)} (I : Inv X pins σ H s) (r : Vals vs us) (h : Refs X.K H vs xss) (h0 : xss ≠ []) (h1 : xss.length ≤ 16) (q : Q xss H) :
    wpAny (model X.prog X.w) X.A (call (.type "zip") us) (fun v s' => ZipAt X pins σ v s' Q) X.xe s := by
  obtain ⟨cs, rfl, hv, hd⟩ := refs_srcs I h r
  refine call_zip hv (by rw [hd.len]; exact h1) fun h' z hz hk fz => ⟨s, h', cs, xss, H, rfl, rfl, z, hz, hk, I, hd, fun e => h0 ?_, by rw [hd.len]; exact h1, fz, q⟩
  have := hd.len
  rw [e] at this
  exact List.eq_nil_of_length_eq_zero this.symm
theorem pz_2 {e : Expr} {es : List Expr} {ta : TA} {p pos : Pos} (hg : Gl X "zip") (hm : X.mg "zip" = none) (ha : PA X (e :: es) ta) (hs : starEach (e :: es) X.env = (false, eval e X.env) :: starEach es X.env := by rfl) (hpl : (backTo pos (starEach es X.env)).any (·.1) = false := by rfl) :
    PZ X (.Call (.Name "zip" p) (e :: es) [] pos) (tZa X.K ta) := by
  intro pins s σ H Q I h
  refine Call_ (ld_blt I hg hm boot_zip (PyProof.Rows.callWith_type1 (thn (ha.run pos pins s σ H _ I h) fun us s1 ⟨vs, H1, I1, r1, xss, hr, h0, h1, q⟩ => ?_) hs hpl))
  exact zip_run I1 r1 hr h0 h1 q
def putN (H : Hp) (as : List Addr) (vss : List (List V)) : Hp := (as.zip vss).foldl (fun G q => upd G q.1 (.tup q.2)) H
theorem put_off {b : Addr} : ∀ (qs : List (Addr × List V)) (H : Hp), (∀ q ∈ qs, b ≠ q.1) → qs.foldl (fun G q => upd G q.1 (.tup q.2)) H b = H b
  | [], _, _ => rfl
  | q :: qs, H, h => by
    have step := put_off qs (upd H q.1 (.tup q.2)) fun r hr => h r (List.mem_cons_of_mem _ hr)
    rw [List.foldl_cons, step]
    exact upd_ne (h q List.mem_cons_self)
theorem putN_off {b : Addr} (as : List Addr) (vss : List (List V)) (H : Hp) (h : b ∉ as) : putN H as vss b = H b :=
  put_off _ H fun q hq z => h (by rw [z]; exact (List.of_mem_zip hq).1)
theorem putN_at (as : List Addr) (vss : List (List V)) (H : Hp) (j : Nat) (a : Addr) (v : List V) (nd : as.Nodup) (h1 : as[j]? = some a) (h2 : vss[j]? = some v) : putN H as vss a = some (.tup v) := by
  induction as generalizing vss H j with
  | nil => simp at h1
  | cons c as ih =>
    cases vss with
    | nil => simp at h2
    | cons u vss =>
      obtain ⟨out, nd⟩ := List.nodup_cons.mp nd
      cases j with
      | zero =>
        obtain rfl : c = a := by simpa using h1
        obtain rfl : u = v := by simpa using h2
        exact (putN_off as vss (upd H c (.tup u)) out).trans upd_same
      | succ j => exact ih vss (upd H c (.tup u)) j nd (by simpa using h1) (by simpa using h2)
def colV (xss : List (List V)) (j : Nat) : List V := xss.map fun xs => xs[j]?.getD .non
def colsV (xss : List (List V)) (n : Nat) : List (List V) := (List.range n).map (colV xss)
theorem vals_get : ∀ {xs : List V} {us : List Value}, Vals xs us → ∀ j : Nat, j < xs.length → RelV (xs[j]?.getD .non) (us[j]?.getD .none)
  | _, _, .nil, j, h => by simp at h
  | _, _, .cons r t, 0, h => by simpa using r
  | _, _, .cons r t, j + 1, h => by simpa using vals_get t j (by simpa using h)
theorem vals_len : ∀ {xs : List V} {us : List Value}, Vals xs us → xs.length = us.length
  | _, _, .nil => rfl
  | _, _, .cons _ t => congrArg (· + 1) (vals_len t)
theorem hold_col : ∀ {cs : List (Nat × Array Value)} {xss : List (List V)}, Hold cs xss → ∀ j : Nat, (∀ xs ∈ xss, j < xs.length) → Vals (colV xss j) (cs.map fun q => q.2[j]?.getD .none)
  | [], [], _, j, _ => .nil
  | [], _ :: _, h, _, _ => by have := h.len; simp at this
  | _ :: _, [], h, _, _ => by have := h.len; simp at this
  | (c, its) :: cs, xs :: xss, h, j, hl => by
    have r := h.at_ 0 c its xs rfl rfl
    refine .cons ?_ (hold_col (cs := cs) (xss := xss) ⟨by have := h.len; simpa using this, fun i c2 i2 x2 h1 h2 => h.at_ (i + 1) c2 i2 x2 (by simpa using h1) (by simpa using h2)⟩ j fun x hx => hl x (List.mem_cons_of_mem _ hx))
    have := vals_get r j (hl xs List.mem_cons_self)
    simpa using this
theorem grown {pins : List (Addr × Obj)} {σ : L2.St} {H G : Hp} {s : Shared} {h' : Heap} (I : Inv X pins σ H s) (keeps : ∀ a o, s.heap.get? a = some o → h'.get? a = some o) (more : ∀ b u, H b = some u → G b = some u)
    (none_ : ∀ b o, s.heap.get? b = some o → H b = none → G b = none) (ok : ∀ b u, G b = some u → H b = none → ObjOk X.prog X.w G h' b u) : Inv X pins σ G { s with heap := h' } := by
  have un : Un (frs X.stack) [] H G s.heap h' := {
    keep := fun b o e _ _ _ => keeps b o e
    slot := fun b o e _ _ _ => ⟨o.slots, keeps b o e⟩
    free := fun b o e n _ => none_ b o e n
    there := fun b o e _ => ⟨o, keeps b o e⟩
    tups := fun b xs e => more b _ e
    frzs := fun b o u e => more b _ e
    tbls := fun b ps e => ⟨#[], by simpa using more b _ e⟩ }
  have all : HOk X.prog X.w G h' := fun b u e => by
    cases n : H b with
    | none => exact ok b u e n
    | some v =>
      obtain rfl : v = u := Option.some.inj ((more b v n).symm.trans e)
      exact (I.hok b v n).stay (fun d o _ y => keeps d o y) (fun d y => more d _ y) fun d xs y => more d _ y
  exact I.call' rfl un all I.bare (by simp)
theorem tuples_laid {pins : List (Addr × Obj)} {σ : L2.St} {H : Hp} {s : Shared} {h' : Heap} {n S : Nat} {cs : List (Nat × Array Value)} {xss : List (List V)} {acc : Array Value} {c : Nat} {as : List Nat} (I : Inv X pins σ H s) (hd : Hold cs xss) (hl : ∀ xs ∈ xss, n ≤ xs.length) (hcl : cs.length ≤ 16) (hn : n ≤ sizeLine)
    (hk : ∀ a o, s.heap.get? a = some o → h'.get? a = some o) (hS : h'.get? S = some { cls := .type "list", dict := none, data := .seq acc c, slots := #[] }) (hSb : s.heap.objs.size ≤ S) (hal : as.length = n) (hG : Mde cs S h' as) (hacc : acc.toList = as.map Value.ref) :
    Inv X pins σ (putN (upd H S (.lst (as.map V.ref))) as (colsV xss n)) { s with heap := h' } ∧ H S = none ∧ (∀ t ∈ as, H t = none) ∧ S ∉ as ∧ as.Nodup := by
  have fresh : ∀ b : Addr, s.heap.objs.size ≤ b → H b = none := fun b hb => I.hok.fresh hb
  have up : ∀ t ∈ as, S < t := hG.above
  have out : S ∉ as := fun z => Nat.lt_irrefl _ (up S z)
  have nd : as.Nodup := hG.rise.imp fun {a b} (lt : a < b) => Nat.ne_of_lt lt
  have nS : H S = none := fresh S hSb
  have nT : ∀ t ∈ as, H t = none := fun t ht => fresh t (Nat.le_trans hSb (Nat.le_of_lt (up t ht)))
  have same : ∀ b : Addr, b ∉ as → b ≠ S → putN (upd H S (.lst (as.map V.ref))) as (colsV xss n) b = H b := fun b h1 h2 => (putN_off as _ _ h1).trans (upd_ne h2)
  refine ⟨grown I hk (fun b u e => ?_) (fun b o e nb => ?_) fun b u e nb => ?_, nS, nT, out, nd⟩
  · have h1 : b ∉ as := fun z => by simp [nT b z] at e
    have h2 : b ≠ S := fun z => by simp [z, nS] at e
    rw [same b h1 h2]
    exact e
  · have lt : b < S := Nat.lt_of_lt_of_le (Heap.lt_size e) hSb
    rw [same b (fun z => Nat.lt_irrefl _ (Nat.lt_trans lt (up b z))) (Nat.ne_of_lt lt)]
    exact nb
  · by_cases hb : b ∈ as
    · obtain ⟨j, hj⟩ := List.getElem?_of_mem hb
      have lt : j < n := hal ▸ (List.getElem?_eq_some_iff.mp hj).1
      have col : (colsV xss n)[j]? = some (colV xss j) := by simp [colsV, lt]
      rw [putN_at as _ _ j b _ nd hj col] at e
      cases e
      have few : (colV xss j).length ≤ sizeLine := by
        have : sizeLine = 16777216 := by decide
        have := hd.len
        simp only [colV, List.length_map]
        omega
      exact ⟨few, _, hold_col hd j fun xs hx => Nat.lt_of_lt_of_le lt (hl xs hx), _, hG.there j b hj, rfl, _, rfl⟩
    · by_cases eS : b = S
      · subst eS
        rw [putN_off as _ _ hb, upd_same] at e
        cases e
        refine ⟨by simpa [hal] using hn, acc.toList, c, by rw [hacc]; exact LiI.vals_refs as, ?_⟩
        simpa using hS
      · rw [same b hb eS, nb] at e
        cases e
def tListZ (tz : TZ) : TE := fun σ H Q => tz σ H fun xss H1 => xss ≠ [] → xss.length ≤ 16 → ∃ n : Nat, (∀ xs ∈ xss, n ≤ xs.length) ∧ (∃ xs ∈ xss, xs.length ≤ n) ∧ n ≤ sizeLine ∧
  ∀ (S : Addr) (ts : List Addr), H1 S = none → (∀ t ∈ ts, H1 t = none) → S ∉ ts → ts.Nodup → ts.length = n → Q (.ref S) (putN (upd H1 S (.lst (ts.map V.ref))) ts (colsV xss n))
theorem pe_listZ {e : Expr} {tz : TZ} {p pos : Pos} (hc : X.calm = true) (hg : Gl X "list") (hm : X.mg "list" = none) (he : PZ X e tz) (na : starEach [e] X.env = (false, eval e X.env) :: starEach [] X.env := by rfl) : PE X (.Call (.Name "list" p) [e] [] pos) (tListZ tz) := by
  refine ⟨fun pins s σ H Q I h => ?_⟩
  refine Call_ (ld_blt I hg hm boot_list (PyProof.Rows.callWith_type1 (args_cons (thn (he pins s σ H _ I h) fun x s' ⟨s1, h1, cs, xss, H1, es, ex, z, hz, hk1, I1, hd, hne, hcl, fz, q0⟩ => args_nil ?_) na) na))
  subst es ex
  obtain ⟨n, hl1, hl2, hn, q⟩ := q0 (fun z => hne (by have := hd.len; rw [z] at this; exact List.eq_nil_of_length_eq_zero this)) (by rw [← hd.len]; exact hcl)
  have sz : ∀ {j : Nat} {c : Nat} {its : Array Value} {xs : List V}, cs[j]? = some (c, its) → xss[j]? = some xs → its.size = xs.length := fun {j c its xs} e1 e2 => by
    have := vals_len (hd.at_ j c its xs e1 e2)
    simp at this
    omega
  have g1 : ∀ q ∈ cs, n ≤ q.2.size := fun q hq => by
    obtain ⟨j, hj⟩ := List.mem_iff_getElem?.mp hq
    have hjl : j < xss.length := by rw [← hd.len]; exact (List.getElem?_eq_some_iff.mp hj).1
    have := sz (c := q.1) (its := q.2) hj (List.getElem?_eq_getElem hjl)
    have := hl1 _ (List.getElem_mem hjl)
    omega
  have g2 : ∃ q ∈ cs, q.2.size ≤ n := by
    obtain ⟨xs, hx, hxn⟩ := hl2
    obtain ⟨j, hj⟩ := List.mem_iff_getElem?.mp hx
    have hjl : j < cs.length := by rw [hd.len]; exact (List.getElem?_eq_some_iff.mp hj).1
    have := sz (c := cs[j].1) (its := cs[j].2) (List.getElem?_eq_getElem hjl) hj
    exact ⟨cs[j], List.getElem_mem hjl, by omega⟩
  refine call_list_zip (s := { s1 with heap := h1 }) (I1.ok.hd hc) hne (Nat.le_trans hcl (by decide)) (show _ < h1.objs.size by omega) g1 g2 hn z fun h' acc c as hk hS hal hG hacc => ?_
  have hS0 : s1.heap.objs.size ≤ h1.objs.size := by omega
  obtain ⟨J, n1, n2, n3, n4⟩ := tuples_laid I1 hd hl1 hcl hn (fun a o e => hk a o (Heap.lt_size e) (hk1 a o e)) hS hS0 hal hG hacc
  exact ⟨.ref h1.objs.size, _, J, rfl, q _ as n1 n2 n3 n4 hal⟩
end
end Zn

namespace Pd
open PySem PySem.Spec PyProof.Rows L2 LamX Zn
inductive RepL (K : PySem.W.Frag) (wd : Wd) : List (List V) → List (List D) → Prop
  | nil : RepL K wd [] []
  | cons {xs : List V} {ds : List D} {xss : List (List V)} {dss : List (List D)} : Reps K wd xs ds → RepL K wd xss dss → RepL K wd (xs :: xss) (ds :: dss)
theorem RepL.length {K : PySem.W.Frag} {wd : Wd} : ∀ {xss : List (List V)} {dss : List (List D)}, RepL K wd xss dss → xss.length = dss.length
  | _, _, .nil => rfl
  | _, _, .cons _ t => congrArg (· + 1) t.length
theorem RepL.mono {K : PySem.W.Frag} {wd wd' : Wd} (le : Le wd wd') : ∀ {xss : List (List V)} {dss : List (List D)}, RepL K wd xss dss → RepL K wd' xss dss
  | _, _, .nil => .nil
  | _, _, .cons r t => .cons (r.mono le) (t.mono le)
theorem RepL.lens {K : PySem.W.Frag} {wd : Wd} : ∀ {xss : List (List V)} {dss : List (List D)}, RepL K wd xss dss → xss.map List.length = dss.map List.length
  | _, _, .nil => rfl
  | _, _, .cons r t => by rw [List.map_cons, List.map_cons, r.length, t.lens]
def liftZ (K : PySem.W.Frag) (T : List (Addr × Str)) (E : XK) (w : W (List (List D))) : TZ := fun σ H Q =>
  ∃ (c : Ctx) (wd : Wd) (env : PEnv) (P : List (List D) → PEnv → Prop) (Ex : Xc → Prop), Rel K T c wd env σ H ∧ w env P Ex ∧ XOk K T c E Ex ∧
    ∀ dss env', P dss env' → ∀ (xss : List (List V)) (wd' : Wd) (H' : Hp), Le wd wd' → Rel K T c wd' env' σ H' → RepL K wd' xss dss → Q xss H'
abbrev JZ (T : List (Addr × Str)) (X : Cx) (E : XK) (e : Expr) (w : W (List (List D))) : Prop := PZ X e (liftZ X.K T E w)
def itemsAll : List D → Option (List (List D))
  | [] => some []
  | x :: xs => match dItems x, itemsAll xs with
    | some ys, some yss => some (ys :: yss)
    | _, _ => none
theorem refs_of {K : PySem.W.Frag} {T : List (Addr × Str)} {wd : Wd} {H : Hp} (g : Good T wd H) : ∀ {ds : List D} {vs : List V} {dss : List (List D)}, itemsAll ds = some dss → Reps K wd vs ds → ∃ xss, Refs K H vs xss ∧ RepL K wd xss dss
  | [], _, _, e, .nil => by
    cases e
    exact ⟨[], .nil, .nil⟩
  | d :: ds, _, dss, e, .cons r rr => by
    unfold itemsAll at e
    split at e
    · rename_i ys yss e1 e2
      cases e
      obtain ⟨xss, h1, h2⟩ := refs_of g e2 rr
      cases d with
      | lst zs =>
        cases e1
        cases r with
        | lst h rs => exact ⟨_, .cons (.inl (sub_sqL g h)) h1, .cons rs h2⟩
      | tup zs =>
        cases e1
        cases r with
        | tup h rs => exact ⟨_, .cons (.inr (sub_sqT g h)) h1, .cons rs h2⟩
      | _ => cases e1
    · cases e
def wZa (a : W (List D)) : W (List (List D)) := a.bind fun xs env Q _ => ∃ dss, itemsAll xs = some dss ∧ dss ≠ [] ∧ dss.length ≤ 16 ∧ Q dss env
section
variable {X : Cx} {T : List (Addr × Str)} {E : XK} {k : Nat}
theorem jz_a {e : Expr} {es : List Expr} {a : W (List D)} {p pos : Pos} (hm : X.mg "zip" = none) (ha : JA T X E (e :: es) a) (hg : Gl X "zip" := by rfl) (hs : starEach (e :: es) X.env = (false, eval e X.env) :: starEach es X.env := by rfl) (hpl : (backTo pos (starEach es X.env)).any (·.1) = false := by rfl) :
    JZ T X E (.Call (.Name "zip" p) (e :: es) [] pos) (wZa a) := fun pins s σ H Q I ⟨c, wd, env, P, Ex, r, h, xo, kk⟩ =>
  pz_2 hg hm ha hs hpl pins s σ H Q I ⟨c, wd, env, _, Ex, r, h, xo, fun ds env1 h1 vs wd1 H1 le1 r1 rp1 => by
    obtain ⟨dss, e1, e2, e3, h2⟩ := h1
    obtain ⟨xss, f1, f2⟩ := refs_of r1.good e1 rp1
    exact ⟨xss, f1, fun z => e2 (by have := f2.length; rw [z] at this; exact List.eq_nil_of_length_eq_zero this.symm), by rw [f2.length]; exact e3, kk dss env1 h2 xss wd1 H1 le1 r1 f2⟩⟩
def minLen : List (List D) → Nat
  | [] => 0
  | [x] => x.length
  | x :: xs => min x.length (minLen xs)
theorem minLen_le : ∀ {dss : List (List D)}, ∀ ds ∈ dss, minLen dss ≤ ds.length
  | [], _, h => by cases h
  | [x], ds, h => by rw [List.mem_singleton.mp h]; exact Nat.le_refl _
  | x :: y :: xs, ds, h => by
    show min x.length (minLen (y :: xs)) ≤ _
    rcases List.mem_cons.mp h with rfl | h
    · exact Nat.min_le_left _ _
    · exact Nat.le_trans (Nat.min_le_right _ _) (minLen_le ds h)
theorem minLen_mem : ∀ {dss : List (List D)}, dss ≠ [] → ∃ ds ∈ dss, ds.length ≤ minLen dss
  | [], h => absurd rfl h
  | [x], _ => ⟨x, List.mem_cons_self, Nat.le_refl _⟩
  | x :: y :: xs, _ => by
    obtain ⟨ds, h1, h2⟩ := minLen_mem (dss := y :: xs) (by simp)
    by_cases hx : x.length ≤ minLen (y :: xs)
    · exact ⟨x, List.mem_cons_self, by show _ ≤ min x.length (minLen (y :: xs)); omega⟩
    · exact ⟨ds, List.mem_cons_of_mem _ h1, by show _ ≤ min x.length (minLen (y :: xs)); omega⟩
def colD (dss : List (List D)) (j : Nat) : List D := dss.map fun ds => ds[j]?.getD .non
def colsD (dss : List (List D)) : List D := (List.range (minLen dss)).map fun j => .tup (colD dss j)
theorem zipD_eq (xs ys : List D) : zipD xs ys = colsD [xs, ys] := by
  refine List.ext_getElem? fun j => ?_
  unfold zipD colsD
  rw [List.getElem?_map, List.getElem?_map]
  by_cases h : j < min xs.length ys.length
  · rw [List.getElem?_range (show j < minLen [xs, ys] from h)]
    have h1 : j < xs.length := by omega
    have h2 : j < ys.length := by omega
    have hz : (xs.zip ys)[j]? = some (xs[j], ys[j]) := List.getElem?_zip_eq_some.mpr ⟨List.getElem?_eq_getElem h1, List.getElem?_eq_getElem h2⟩
    rw [hz]
    simp [colD, h1, h2]
  · rw [List.getElem?_eq_none (by rw [List.length_zip]; omega), List.getElem?_eq_none (by rw [List.length_range]; show min xs.length ys.length ≤ j; omega)]
    rfl
def rowsD : List (List D) → List D
  | [xs, ys] => zipD xs ys
  | dss => colsD dss
theorem rowsD_eq : ∀ dss : List (List D), rowsD dss = colsD dss
  | [] => rfl
  | [_] => rfl
  | [xs, ys] => zipD_eq xs ys
  | _ :: _ :: _ :: _ => rfl
def wListZ (w : W (List (List D))) : W (List D) := w.bind fun dss env Q _ => minLen dss ≤ 1000000 ∧ Q (rowsD dss) env
theorem repL_col {K : PySem.W.Frag} {wd : Wd} : ∀ {xss : List (List V)} {dss : List (List D)}, RepL K wd xss dss → ∀ j, (∀ ds ∈ dss, j < ds.length) → Reps K wd (colV xss j) (colD dss j)
  | _, _, .nil, _, _ => .nil
  | _, _, .cons (xs := xs) (ds := ds) r t, j, h => by
    refine .cons ?_ (repL_col t j fun d hd => h d (List.mem_cons_of_mem _ hd))
    have hj := h ds List.mem_cons_self
    obtain ⟨v, e1, e2⟩ := r.get (List.getElem?_eq_getElem hj)
    show Rep K wd (xs[j]?.getD V.non) (ds[j]?.getD D.non)
    rw [e1, List.getElem?_eq_getElem hj]
    exact e2
theorem grow_put {K : PySem.W.Frag} {T : List (Addr × Str)} {dss : List (List D)} : ∀ (ts : List Addr) (i : Nat) {wd : Wd} {H : Hp} {xss : List (List V)}, Good T wd H → RepL K wd xss dss → (∀ t ∈ ts, H t = none) → ts.Nodup → i + ts.length ≤ minLen dss → dss.length ≤ 16 →
    ∃ wd', Grow wd H wd' (putN H ts ((List.range' i ts.length).map (colV xss))) ∧ Reps K wd' (ts.map V.ref) ((List.range' i ts.length).map fun j => .tup (colD dss j))
  | [], i, wd, H, xss, g, r, _, _, _, _ => ⟨wd, .refl _ _, .nil⟩
  | t :: ts, i, wd, H, xss, g, r, hn, nd, hl, hd => by
    have ht := hn t List.mem_cons_self
    have rc := repL_col r i fun ds hds => Nat.lt_of_lt_of_le (by simp at hl; omega) (minLen_le ds hds)
    have hz : (colV xss i).length ≤ sizeLine := by
      unfold colV
      rw [List.length_map, r.length]
      exact Nat.le_trans hd (by decide)
    have g1 : Grow wd H (wd.add t (.tup (colV xss i))) (upd H t (.tup (colV xss i))) := Grow.one ht noTb_tup hz
    have le1 := g1.le g
    obtain ⟨wd', g2, r2⟩ := grow_put ts (i + 1) (g1.all g).1 (r.mono le1) (fun u hu => by rw [upd_ne (fun z => (List.nodup_cons.mp nd).1 (by rw [← z]; exact hu))]; exact hn u (List.mem_cons_of_mem _ hu)) (List.nodup_cons.mp nd).2 (by simp at hl; omega) hd
    refine ⟨wd', g1.trans g2, ?_⟩
    have le2 := g2.le (g1.all g).1
    refine .cons (.tup (le2.m _ _ upd_same) (rc.mono (le1.trans le2))) r2
theorem putN_comm {H : Hp} {S : Addr} {o : HO} : ∀ (ts : List Addr) (vss : List (List V)), S ∉ ts → putN (upd H S o) ts vss = upd (putN H ts vss) S o := fun ts vss h => by
  funext b
  by_cases hb : b = S
  · subst hb
    rw [upd_same, putN_off ts vss _ h, upd_same]
  · rw [upd_ne hb]
    have key : ∀ (qs : List (Addr × List V)) (H1 H2 : Hp), H1 b = H2 b → qs.foldl (fun G q => upd G q.1 (.tup q.2)) H1 b = qs.foldl (fun G q => upd G q.1 (.tup q.2)) H2 b := fun qs => by
      induction qs with
      | nil => exact fun H1 H2 e => e
      | cons q qs ih =>
        intro H1 H2 e
        refine ih _ _ ?_
        by_cases z : b = q.1
        · subst z
          exact upd_same.trans upd_same.symm
        · exact (upd_ne z).trans (e.trans (upd_ne z).symm)
    exact key _ _ _ (upd_ne hb)
theorem jf_listZ {e : Expr} {w : W (List (List D))} {p pos : Pos} (B : Bd X E k) (hm : X.mg "list" = none) (he : JZ T X E e w) (hg : Gl X "list" := by rfl) (na : starEach [e] X.env = (false, eval e X.env) :: starEach [] X.env := by rfl) : JF T X E (.Call (.Name "list" p) [e] [] pos) (wListZ w) :=
  peI (pe_listZ B.calm hg hm he na) fun σ H Q ⟨c, wd, env, P, Ex, r, h, xo, kk⟩ => ⟨c, wd, env, _, Ex, r, h, xo, fun dss env1 h1 xss wd1 H1 le1 r1 rp1 m0 m1 => by
    obtain ⟨hl, h2⟩ := h1
    have n0 : dss ≠ [] := fun z => m0 (by have := rp1.length; rw [z] at this; exact List.eq_nil_of_length_eq_zero this)
    have n1 : dss.length ≤ 16 := by rw [← rp1.length]; exact m1
    have hlen : ∀ {a : List V} {b : List D} {j : Nat}, xss[j]? = some a → dss[j]? = some b → a.length = b.length := fun {a b j} e1 e2 => by
      have := congrArg (fun l => l[j]?) rp1.lens
      simp [e1, e2] at this
      exact this
    refine ⟨minLen dss, fun xs hx => ?_, ?_, sz6 hl, fun S ts hS hts nS nd ht => ?_⟩
    · obtain ⟨j, hj⟩ := List.mem_iff_getElem?.mp hx
      have hjl : j < dss.length := by rw [← rp1.length]; exact (List.getElem?_eq_some_iff.mp hj).1
      rw [hlen hj (List.getElem?_eq_getElem hjl)]
      exact minLen_le _ (List.getElem_mem hjl)
    · obtain ⟨ds, hd, hdl⟩ := minLen_mem n0
      obtain ⟨j, hj⟩ := List.mem_iff_getElem?.mp hd
      have hjl : j < xss.length := by rw [rp1.length]; exact (List.getElem?_eq_some_iff.mp hj).1
      exact ⟨xss[j], List.getElem_mem hjl, by rw [hlen (List.getElem?_eq_getElem hjl) hj]; exact hdl⟩
    · obtain ⟨wd2, g2, rs⟩ := grow_put ts 0 r1.good rp1 hts nd (by omega) n1
      have r2 := r1.grow g2
      have ec : (List.range' 0 ts.length).map (colV xss) = colsV xss (minLen dss) := by
        unfold colsV
        rw [List.range_eq_range', ht]
      rw [ec] at r2 g2
      have ed : ((List.range' 0 ts.length).map fun j => D.tup (colD dss j)) = rowsD dss := by
        rw [rowsD_eq]
        unfold colsD
        rw [List.range_eq_range', ht]
      rw [ed] at rs
      rw [putN_comm ts _ nS]
      have hS2 : putN H1 ts (colsV xss (minLen dss)) S = none := by rw [putN_off ts _ _ nS]; exact hS
      obtain ⟨r3, f⟩ := r2.fresh hS2 rs (by rw [List.length_map, ht]; exact sz6 hl)
      exact kk _ env1 h2 (.ref S) _ _ (le1.trans (g2.le r1.good)) r3 f⟩
end
end Pd

namespace Pd
open PySem PySem.Spec PyProof.Rows L2 LamX
section
variable {X : Cx} {T : List (Addr × Str)} {E : XK} {k : Nat} {x y : Expr} {a b : W D} {p p1 p2 pos : Pos}
end
end Pd

namespace Pd
open PySem PySem.Spec PyProof.Rows L2 LamX
def okR : D → Bool
  | .non => true
  | .bl _ => true
  | .int _ => true
  | .str _ => true
  | .lst _ => true
  | .tup _ => true
  | .dic [] => true
  | _ => false
def dReprA (d : D) : Option D := if okR d && sho 30 d && decide (wt d ≤ 100000) then some (.str (shown d)) else none
def ShoA (d : D) : Prop := okR d = true ∧ sho 30 d = true ∧ wt d ≤ 100000
def fReprA : D → PEnv → K1 → Prop := fun x env Q => ShoA x ∧ Q (.str (shown x)) env
theorem as_reprA : Asks1 fReprA dReprA := fun x env Q ⟨⟨h1, h2, h3⟩, q⟩ => ⟨_, by
  unfold dReprA
  rw [if_pos (by rw [h1, h2]; exact decide_eq_true h3)], q⟩
theorem cr_shwA {X : Cx} (gd : X.A.guards = some []) (hu : X.A.units + 64 < cLine) : CallR X (.builtin "repr") (fun xs H Q => ∃ (T : List (Addr × Str)) (wd : Wd) (v : V) (d : D), xs = [v] ∧ Good T wd H ∧ Top X.K wd H v d ∧ okR d = true ∧ sho 30 d = true ∧ wt d ≤ 100000 ∧ Q (.str (shown d)) H) := by
  intro pins s σ H xs us Q I r h
  obtain ⟨T, wd, v, d, rfl, g, t, h1, h2, h3, q⟩ := h
  have sl := sho_len h2 h3
  have lst : ∀ ds, d = .lst ds → wpAny (model X.prog X.w) X.A (call (.builtin "repr") us) (EP X pins σ Q) X.xe s := fun ds e => by
    subst e
    obtain ⟨p, vs, rfl, e1, e2⟩ := top_lst g t
    exact cr_shw gd hu pins s σ H _ us Q I r ⟨p, T, wd, vs, ds, rfl, g, e2, .inl ⟨.inl (.inl e1), h2, h3, q⟩⟩
  have tup : ∀ ds, d = .tup ds → wpAny (model X.prog X.w) X.A (call (.builtin "repr") us) (EP X pins σ Q) X.xe s := fun ds e => by
    subst e
    obtain ⟨p, vs, rfl, e1, _, e2⟩ := top_tup g t
    exact cr_shw gd hu pins s σ H _ us Q I r ⟨p, T, wd, vs, ds, rfl, g, e2, .inr ⟨e1, h2, h3, q⟩⟩
  obtain ⟨u, rfl, ru⟩ := vals1 r
  cases d with
  | lst ds => exact lst ds rfl
  | tup ds => exact tup ds rfl
  | non =>
    rcases t with t | ⟨p, vs, xs, _, e, _⟩
    · cases t
      cases ru
      exact PySem.P.repr_of_none ⟨.str _, H, I.tok _, ⟨_, rfl⟩, q⟩
    · cases e
  | bl b =>
    rcases t with t | ⟨p, vs, xs, _, e, _⟩
    · cases t
      cases ru
      refine PySem.P.repr_of_bool ⟨.str _, H, I.tok _, ⟨_, rfl⟩, ?_⟩
      cases b <;> exact q
    · cases e
  | int i =>
    rcases t with t | ⟨p, vs, xs, _, e, _⟩
    · cases t
      obtain ⟨tk, rfl⟩ := ru
      have hi : i.natAbs < 10 ^ 120 := of_decide_eq_true h2
      exact PySem.P.repr_of_int (Nat.lt_trans (int_sho hi).2 (by decide)) ⟨.str _, H, I.tok _, ⟨_, rfl⟩, q⟩
    · cases e
  | str z =>
    rcases t with t | ⟨p, vs, xs, _, e, _⟩
    · cases t
      obtain ⟨tk, rfl⟩ := ru
      exact PySem.P.repr_of_str ⟨.str _, H, I.tok _, ⟨_, rfl⟩, q⟩ sl
    · cases e
  | dic kvs =>
    cases kvs with
    | cons _ _ => cases h1
    | nil =>
      rcases t with t | ⟨p, vs, xs, _, e, _⟩
      · cases t with
        | dic hs e rs =>
          rename_i a vs0
          have v0 : vs0 = [] := by
            cases vs0 with
            | nil => rfl
            | cons _ _ => cases e
          subst v0
          cases ru
          obtain ⟨_, nm, vs, kv, o, en, n, ho, hx, he, hall⟩ := I.hok _ _ (g.sub _ _ hs)
          have ev : vs = [] := by
            cases vs with
            | nil => rfl
            | cons _ _ => cases kv
          subst ev
          have ee : en.toList = [] := by
            cases en' : en.toList with
            | nil => rfl
            | cons _ _ =>
              have z := hall.2.1
              rw [en'] at z
              cases z
          refine PySem.repr_of_reads' (h₀ := s.heap) (d := .dict []) (as := a :: [] ++ []) (.dict ho hx.1 he (by rw [ee]; exact .nil) (by rw [ee]; exact .nil)) rfl (fun _ hm => ?_) gd (by show X.A.units + (_ + 1) < cLine; simp only [PyData.depth, PyData.depthKv]; omega) (fun _ _ z => z) (fun h' u tk hk => ⟨.str _, H, I.kept hk, ⟨_, rfl⟩, q⟩) sl
          have hm' : sysModules = a := by simpa using hm
          rw [← hm'] at nm
          exact absurd nm (by decide)
      · cases e
  | scr _ => cases h1
  | dit _ => cases h1
  | ins _ _ => cases h1
  | box _ => cases h1
  | raw _ => cases h1
  | cls _ => cases h1
theorem cb_reprA {X : Cx} (gd : X.A.guards = some []) (hu : X.A.units + 64 < cLine) : CallB X (.builtin "repr") dReprA := ⟨_, cr_shwA gd hu, fun x z e T wd H v Q g t d => by
  unfold dReprA at e
  obtain ⟨h, rfl⟩ := ite_some e
  rw [Bool.and_eq_true, Bool.and_eq_true, decide_eq_true_eq] at h
  exact ⟨T, wd, v, x, rfl, g, t, h.1.1, h.1.2, h.2, d.now (.str _)⟩⟩
end Pd

namespace Pd
open PySem PySem.Spec PyProof.Rows L2 LamX
section
variable {P : Program} {w : World} {K : PySem.W.Frag} {mg : Str → Option Value} {base : Heap} {T : List (Addr × Str)}
end
section
variable {X : Cx} {T : List (Addr × Str)} {E : XK} {k : Nat}
end
end Pd

namespace Pd
open PySem PySem.Spec PyProof.Rows L2 LamX
section
variable {X : Cx}
end
end Pd

namespace Pd
open PySem PySem.Spec PyProof.Rows L2 LamX
section
variable {X : Cx} {T : List (Addr × Str)} {E : XK} {k : Nat}
end
section
variable {P : Program} {w : World} {K : PySem.W.Frag} {mg : Str → Option Value} {base : Heap} {T : List (Addr × Str)}
end
end Pd

namespace Hd
open PySem PySem.Spec PyProof.Rows L2
def top (i : Nat) : Stmt := PySem.Challenge.pw_sumsalone_k07_whole_roads_of_units.main.body.getD i (.Pass ⟨0, 0, 0, 0⟩)
abbrev s_is_integer : Stmt := top 1
abbrev s_is_from : Stmt := top 2
abbrev s_is_amount : Stmt := top 12
abbrev s_is_row : Stmt := top 13
abbrev s_require_row : Stmt := top 14
abbrev s_require_rows : Stmt := top 15
abbrev s_falling : Stmt := top 16
abbrev s_prefixes : Stmt := top 17
abbrev s_is_comparable : Stmt := top 18
abbrev s_bars_of : Stmt := top 19
abbrev s_is_below : Stmt := top 20
abbrev s_are_arranged_alike : Stmt := top 22
abbrev s_is_arranged_alike : Stmt := top 23
abbrev s_arranged : Stmt := top 24
abbrev s_is_step : Stmt := top 25
abbrev s_are_steps : Stmt := top 26
abbrev s_behind : Stmt := top 27
abbrev s_after : Stmt := top 28
abbrev s_units : Stmt := top 29
abbrev s_steps_between : Stmt := top 30
abbrev s_road : Stmt := top 31
abbrev s_is_road : Stmt := top 32
abbrev s_fewest_units : Stmt := top 33
abbrev s_L_bowl : Stmt := top 35
abbrev s_L_ladle : Stmt := top 36
abbrev s_L_pick : Stmt := top 37
abbrev s_L_mixed : Stmt := top 38
abbrev s_L_great : Stmt := top 39
abbrev s_L_down : Stmt := top 40
abbrev s_L_heads : Stmt := top 41
abbrev s_L_under : Stmt := top 42
abbrev s_L_dealt : Stmt := top 43
abbrev s_L_moved : Stmt := top 44
abbrev s_L_drawn_row : Stmt := top 45
abbrev s_L_near_row : Stmt := top 46
abbrev s_L_outcome : Stmt := top 47
abbrev s_L_odd_row : Stmt := top 48
abbrev s_L_half : Stmt := top 49
abbrev s_L_is_way : Stmt := top 50
abbrev s_L_road_right : Stmt := top 51
abbrev s_L_fewest : Stmt := top 52
abbrev s_L_small_right : Stmt := top 53
abbrev s_L_right : Stmt := top 54
abbrev s_law : Stmt := top 55
def d_is_integer : He.DefD := ⟨("is_integer", none), "is_integer", "is_integer", defArgs s_is_integer, defBody s_is_integer, defScope s_is_integer, [], []⟩
def d_is_from : He.DefD := ⟨("is_from", none), "is_from", "is_from", defArgs s_is_from, defBody s_is_from, defScope s_is_from, [], []⟩
def d_is_amount : He.DefD := ⟨("is_amount", none), "is_amount", "is_amount", defArgs s_is_amount, defBody s_is_amount, defScope s_is_amount, [], []⟩
def d_is_row : He.DefD := ⟨("is_row", none), "is_row", "is_row", defArgs s_is_row, defBody s_is_row, defScope s_is_row, [], []⟩
def d_require_row : He.DefD := ⟨("require_row", none), "require_row", "require_row", defArgs s_require_row, defBody s_require_row, defScope s_require_row, [], []⟩
def d_require_rows : He.DefD := ⟨("require_rows", none), "require_rows", "require_rows", defArgs s_require_rows, defBody s_require_rows, defScope s_require_rows, [], []⟩
def d_falling : He.DefD := ⟨("falling", none), "falling", "falling", defArgs s_falling, defBody s_falling, defScope s_falling, [], []⟩
def d_prefixes : He.DefD := ⟨("prefixes", none), "prefixes", "prefixes", defArgs s_prefixes, defBody s_prefixes, defScope s_prefixes, [], []⟩
def d_is_comparable : He.DefD := ⟨("is_comparable", none), "is_comparable", "is_comparable", defArgs s_is_comparable, defBody s_is_comparable, defScope s_is_comparable, [], []⟩
def d_bars_of : He.DefD := ⟨("bars_of", none), "bars_of", "bars_of", defArgs s_bars_of, defBody s_bars_of, defScope s_bars_of, [], []⟩
def d_is_below : He.DefD := ⟨("is_below", none), "is_below", "is_below", defArgs s_is_below, defBody s_is_below, defScope s_is_below, [], []⟩
def d_are_arranged_alike : He.DefD := ⟨("are_arranged_alike", none), "are_arranged_alike", "are_arranged_alike", defArgs s_are_arranged_alike, defBody s_are_arranged_alike, defScope s_are_arranged_alike, [], []⟩
def d_is_arranged_alike : He.DefD := ⟨("is_arranged_alike", none), "is_arranged_alike", "is_arranged_alike", defArgs s_is_arranged_alike, defBody s_is_arranged_alike, defScope s_is_arranged_alike, [], []⟩
def d_arranged : He.DefD := ⟨("arranged", none), "arranged", "arranged", defArgs s_arranged, defBody s_arranged, defScope s_arranged, [], []⟩
def d_is_step : He.DefD := ⟨("is_step", none), "is_step", "is_step", defArgs s_is_step, defBody s_is_step, defScope s_is_step, [], []⟩
def d_are_steps : He.DefD := ⟨("are_steps", none), "are_steps", "are_steps", defArgs s_are_steps, defBody s_are_steps, defScope s_are_steps, [], []⟩
def d_behind : He.DefD := ⟨("behind", none), "behind", "behind", defArgs s_behind, defBody s_behind, defScope s_behind, [], []⟩
def d_after : He.DefD := ⟨("after", none), "after", "after", defArgs s_after, defBody s_after, defScope s_after, [], []⟩
def d_units : He.DefD := ⟨("units", none), "units", "units", defArgs s_units, defBody s_units, defScope s_units, [], []⟩
def d_steps_between : He.DefD := ⟨("steps_between", none), "steps_between", "steps_between", defArgs s_steps_between, defBody s_steps_between, defScope s_steps_between, [], []⟩
def d_road : He.DefD := ⟨("road", none), "road", "road", defArgs s_road, defBody s_road, defScope s_road, [], []⟩
def d_is_road : He.DefD := ⟨("is_road", none), "is_road", "is_road", defArgs s_is_road, defBody s_is_road, defScope s_is_road, [], []⟩
def d_fewest_units : He.DefD := ⟨("fewest_units", none), "fewest_units", "fewest_units", defArgs s_fewest_units, defBody s_fewest_units, defScope s_fewest_units, [], []⟩
def d_L_bowl : He.DefD := ⟨("_law_bowl", none), "_law_bowl", "_law_bowl", defArgs s_L_bowl, defBody s_L_bowl, defScope s_L_bowl, [], []⟩
def d_L_ladle : He.DefD := ⟨("_law_ladle", none), "_law_ladle", "_law_ladle", defArgs s_L_ladle, defBody s_L_ladle, defScope s_L_ladle, [], []⟩
def d_L_pick : He.DefD := ⟨("_law_pick", none), "_law_pick", "_law_pick", defArgs s_L_pick, defBody s_L_pick, defScope s_L_pick, [], []⟩
def d_L_mixed : He.DefD := ⟨("_law_mixed", none), "_law_mixed", "_law_mixed", defArgs s_L_mixed, defBody s_L_mixed, defScope s_L_mixed, [], []⟩
def d_L_great : He.DefD := ⟨("_law_great", none), "_law_great", "_law_great", defArgs s_L_great, defBody s_L_great, defScope s_L_great, [], []⟩
def d_L_down : He.DefD := ⟨("_law_down", none), "_law_down", "_law_down", defArgs s_L_down, defBody s_L_down, defScope s_L_down, [], []⟩
def d_L_heads : He.DefD := ⟨("_law_heads", none), "_law_heads", "_law_heads", defArgs s_L_heads, defBody s_L_heads, defScope s_L_heads, [], []⟩
def d_L_under : He.DefD := ⟨("_law_under", none), "_law_under", "_law_under", defArgs s_L_under, defBody s_L_under, defScope s_L_under, [], []⟩
def d_L_dealt : He.DefD := ⟨("_law_dealt", none), "_law_dealt", "_law_dealt", defArgs s_L_dealt, defBody s_L_dealt, defScope s_L_dealt, [], []⟩
def d_L_moved : He.DefD := ⟨("_law_moved", none), "_law_moved", "_law_moved", defArgs s_L_moved, defBody s_L_moved, defScope s_L_moved, [], []⟩
def d_L_drawn_row : He.DefD := ⟨("_law_drawn_row", none), "_law_drawn_row", "_law_drawn_row", defArgs s_L_drawn_row, defBody s_L_drawn_row, defScope s_L_drawn_row, [], []⟩
def d_L_near_row : He.DefD := ⟨("_law_near_row", none), "_law_near_row", "_law_near_row", defArgs s_L_near_row, defBody s_L_near_row, defScope s_L_near_row, [], []⟩
def d_L_outcome : He.DefD := ⟨("_law_outcome", none), "_law_outcome", "_law_outcome", defArgs s_L_outcome, defBody s_L_outcome, defScope s_L_outcome, [], []⟩
def d_L_odd_row : He.DefD := ⟨("_law_odd_row", none), "_law_odd_row", "_law_odd_row", defArgs s_L_odd_row, defBody s_L_odd_row, defScope s_L_odd_row, [], []⟩
def d_L_half : He.DefD := ⟨("_law_half", none), "_law_half", "_law_half", defArgs s_L_half, defBody s_L_half, defScope s_L_half, [], []⟩
def d_L_is_way : He.DefD := ⟨("_law_is_way", none), "_law_is_way", "_law_is_way", defArgs s_L_is_way, defBody s_L_is_way, defScope s_L_is_way, [], []⟩
def d_L_road_right : He.DefD := ⟨("_law_road_right", none), "_law_road_right", "_law_road_right", defArgs s_L_road_right, defBody s_L_road_right, defScope s_L_road_right, [], []⟩
def d_L_fewest : He.DefD := ⟨("_law_fewest", none), "_law_fewest", "_law_fewest", defArgs s_L_fewest, defBody s_L_fewest, defScope s_L_fewest, [], []⟩
def d_L_small_right : He.DefD := ⟨("_law_small_right", none), "_law_small_right", "_law_small_right", defArgs s_L_small_right, defBody s_L_small_right, defScope s_L_small_right, [], []⟩
def d_L_right : He.DefD := ⟨("_law_right", none), "_law_right", "_law_right", defArgs s_L_right, defBody s_L_right, defScope s_L_right, [], []⟩
def d_law : He.DefD := ⟨("law", none), "law", "law", defArgs s_law, defBody s_law, defScope s_law, [], []⟩
def fn0 : List He.DefD := [d_is_integer, d_is_from, d_is_amount, d_is_row, d_require_row, d_require_rows, d_falling, d_prefixes, d_is_comparable, d_bars_of, d_is_below, d_are_arranged_alike, d_is_arranged_alike, d_arranged, d_is_step, d_are_steps, d_behind, d_after, d_units, d_steps_between, d_road, d_is_road, d_fewest_units, d_L_bowl, d_L_ladle, d_L_pick, d_L_mixed, d_L_great, d_L_down, d_L_heads]
def fn1 : List He.DefD := [d_L_under, d_L_dealt, d_L_moved, d_L_drawn_row, d_L_near_row, d_L_outcome, d_L_odd_row, d_L_half, d_L_is_way, d_L_road_right, d_L_fewest, d_L_small_right, d_L_right, d_law]
def fn : List He.DefD := fn0 ++ fn1
def fa0 : List He.Fa := [.glo "is_integer", .glo "is_from", .glo "is_amount", .glo "is_row", .glo "require_row", .glo "require_rows", .glo "falling", .glo "prefixes", .glo "is_comparable", .glo "bars_of", .glo "is_below", .glo "are_arranged_alike", .glo "is_arranged_alike", .glo "arranged", .glo "is_step", .glo "are_steps", .glo "behind", .glo "after", .glo "units", .glo "steps_between", .glo "road", .glo "is_road", .glo "fewest_units", .glo "_law_bowl", .glo "_law_ladle", .glo "_law_pick", .glo "_law_mixed", .glo "_law_great", .glo "_law_down", .glo "_law_heads"]
def fa1 : List He.Fa := [.glo "_law_under", .glo "_law_dealt", .glo "_law_moved", .glo "_law_drawn_row", .glo "_law_near_row", .glo "_law_outcome", .glo "_law_odd_row", .glo "_law_half", .glo "_law_is_way", .glo "_law_road_right", .glo "_law_fewest", .glo "_law_small_right", .glo "_law_right", .glo "law", .glo "SumError", .glo "InvalidSums", .glo "InvalidOperation", .glo "InvalidNumber", .glo "TooMany", .free "IndexError", .free "OverflowError", .free "ValueError", .free "abs", .free "all", .free "any", .free "bool", .free "dict", .free "enumerate", .free "int", .free "isinstance"]
def fa2 : List He.Fa := [.free "len", .free "list", .free "max", .free "min", .free "range", .free "repr", .free "set", .free "sorted", .free "sum", .free "super", .free "tuple", .free "zip", .int "MAX_LENGTH" 64, .int "MAX_NUMBER" 999999999999999999999999999999, .noat "InvalidNumber" "value", .noat "TooMany" "limit", .exc "InvalidOperation", .exc "InvalidSums"]
def fa : List He.Fa := fa0 ++ fa1 ++ fa2
def loose0 : List Str := ["is_integer", "is_from", "SumError", "InvalidSums", "InvalidOperation", "InvalidNumber", "TooMany", "MAX_LENGTH", "MAX_NUMBER", "is_amount", "is_row", "require_row", "require_rows", "falling", "prefixes", "is_comparable", "bars_of", "is_below", "are_arranged_alike", "is_arranged_alike", "arranged", "is_step", "are_steps", "behind", "after", "units", "steps_between", "road", "is_road", "fewest_units"]
def loose1 : List Str := ["_law_bowl", "_law_ladle", "_law_pick", "_law_mixed", "_law_great", "_law_down", "_law_heads", "_law_under", "_law_dealt", "_law_moved", "_law_drawn_row", "_law_near_row", "_law_outcome", "_law_odd_row", "_law_half", "_law_is_way", "_law_road_right", "_law_fewest", "_law_small_right", "_law_right"]
def loose : List Str := loose0 ++ loose1
abbrev R : PySem.W.OpenRow := PySem.W.OpenLaw.row PySem.Challenge.rw_sumsalone_k07_whole_roads_of_units
def ex (K : PySem.W.Frag) : Bool := (((["InvalidSums", "InvalidOperation", "InvalidNumber", "TooMany"] : List Str)).all fun y => ([⟨"InvalidSums", "sums", none⟩, ⟨"InvalidOperation", "operation", none⟩, ⟨"InvalidNumber", "number", some "value"⟩, ⟨"TooMany", "many", some "limit"⟩] : List Pd.Hd).all fun h => decide (PySem.W.exmOne K (.ref (He.ga K y)) (.ref (He.ga K h.x)) = some (decide (h.x = y)))) && (xfB K (He.ga K "InvalidNumber") && (xfB K (He.ga K "TooMany") && (true)))
theorem ex_0 {K : PySem.W.Frag} (h : ex K = true) : ((((["InvalidSums", "InvalidOperation", "InvalidNumber", "TooMany"] : List Str)).all fun y => ([⟨"InvalidSums", "sums", none⟩, ⟨"InvalidOperation", "operation", none⟩, ⟨"InvalidNumber", "number", some "value"⟩, ⟨"TooMany", "many", some "limit"⟩] : List Pd.Hd).all fun h => decide (PySem.W.exmOne K (.ref (He.ga K y)) (.ref (He.ga K h.x)) = some (decide (h.x = y))))) = true := (He.ba h).1
theorem ex_1 {K : PySem.W.Frag} (h : ex K = true) : (xfB K (He.ga K "InvalidNumber")) = true := (He.ba (He.ba h).2).1
theorem ex_2 {K : PySem.W.Frag} (h : ex K = true) : (xfB K (He.ga K "TooMany")) = true := (He.ba (He.ba (He.ba h).2).2).1
def xi : List Pd.IniD := []
def tf : List Str := ["_law_right", "_law_road_right", "_law_small_right", "arranged", "law", "steps_between"]
def fb : List He5.DefA := []
abbrev hk : PySem.W.Hook := Pd.hookV 6 fa fn fb xi tf ex
def ob (s : PySem.W.SharedT) : Pd.AlZ := Pd.obsV 6 fa fn fb xi tf ex (HandSHeadRun.getT s)
theorem ob_eq (s : PySem.W.SharedT) : ob s = hk.obs s.abs := Pd.obsV_eq (HandSHeadRun.getT_eq s)
theorem run1 (w : World) : Pd.Run1 R 12000 w := by
  intro os
  kernel_rfl
theorem run2 (w : World) : Pd.Run2 R (PySem.W.view R.prog [55]) 12000 loose w := by
  intro os
  kernel_rfl
theorem run3 (w : World) : Pd.Run3 R hk ob 12000 w := by
  intro os
  kernel_rfl
theorem run (w : World) : HandSHeadRun.RunEq R (PySem.W.view R.prog [55]) hk ob 12000 loose w := Pd.runEq_of (run1 w) (run2 w) (run3 w)
end Hd

namespace Pd
open PySem PySem.Spec PyProof.Rows L2 LamX
theorem forW_ind {g : WG} {b : (PEnv → Prop) → PEnv → Prop} {fin : PEnv → Prop} (I : List D → PEnv → Prop)
    (step : ∀ x rest env, I (x :: rest) env → (∀ env', I rest env' → forW g b fin rest env') → g x env fun env' => b (forW g b fin rest) env') (done : ∀ env, I [] env → fin env) : ∀ xs env, I xs env → forW g b fin xs env
  | [], env, h => done env h
  | x :: rest, env, h => step x rest env h fun env' h' => forW_ind I step done rest env' h'
theorem compW_ind {g : WG} {t : W Bool} {e : W D} {vs : List Nat} {Q : List D → PEnv → Prop} (I : List D → PEnv → List D → Prop)
    (step : ∀ x rest env acc, I (x :: rest) env acc → (∀ env' acc', I rest env' acc' → compW g t e vs Q rest env' acc') → compW g t e vs Q (x :: rest) env acc) (done : ∀ env acc, I [] env acc → Q acc env) : ∀ xs env acc, I xs env acc → compW g t e vs Q xs env acc
  | [], env, acc, h => done env acc h
  | x :: rest, env, acc, h => step x rest env acc h fun env' acc' h' => compW_ind I step done rest env' acc' h'
abbrev Ti (ns : List Int) : D := .tup (ns.map D.int)
abbrev Li (ns : List Int) : D := .lst (ns.map D.int)
def isI : D → Bool
  | .int _ => true
  | _ => false
def inR (x : D) (a b : Int) : Bool := match x with
  | .int i => decide (a ≤ i) && decide (i ≤ b)
  | _ => false
abbrev maxN : Int := 999999999999999999999999999999
def isRow : D → Bool
  | .tup xs => decide (1 ≤ xs.length ∧ xs.length ≤ 64) && xs.all fun x => inR x 0 maxN
  | _ => false
def kd (x : D) : Prop := (dTy x).isSome = true
def kds (x : D) : Prop := kd x ∧ ∀ xs, x = .tup xs → ∀ y ∈ xs, kd y
theorem kds_Ti (ns : List Int) : kds (Ti ns) := ⟨rfl, fun xs e y hy => by
  cases e
  obtain ⟨n, _, rfl⟩ := List.mem_map.mp hy
  rfl⟩
theorem plain_ints : ∀ ns : List Int, (ns.map D.int).all (plain 50) = true := fun ns => by
  rw [List.all_map]
  exact List.all_eq_true.mpr fun x _ => rfl
theorem toPy_ints (ns : List Int) : (ns.map D.int).map toPy = ns.map PyData.int := by
  rw [List.map_map]
  rfl
def dn (ns : List Int) : List Int := ns.mergeSort fun a b => decide (b ≤ a)
def up (ns : List Int) : List Int := ns.mergeSort fun a b => decide (a ≤ b)
theorem alike_int_all (ns : List Int) : PySem.W.AllAlike (ns.map PyData.int) := fun d hd d' hd' => by
  obtain ⟨a, _, rfl⟩ := List.mem_map.mp hd
  obtain ⟨b, _, rfl⟩ := List.mem_map.mp hd'
  rfl
theorem srt_ints (ns : List Int) : Srt (ns.map D.int) := by
  refine ⟨plain_ints ns, by rw [toPy_ints]; exact alike_int_all ns, .inr fun d hd => ?_⟩
  rw [toPy_ints] at hd
  obtain ⟨a, _, rfl⟩ := List.mem_map.mp hd
  exact ⟨(fun z => by cases z), (fun xs z => by cases z)⟩
theorem ms_up (ns : List Int) : (ns.map D.int).mergeSort (leD false) = (up ns).map D.int :=
  (List.map_mergeSort (r := fun a b : Int => decide (a ≤ b)) (s := leD false) (f := D.int) (fun a _ b _ => (congrFun (congrFun (PySem.W.dataLe_int (fun b : Int => b)) a) b).symm)).symm
theorem ms_dn (ns : List Int) : (ns.map D.int).mergeSort (leD true) = (dn ns).map D.int :=
  (List.map_mergeSort (r := fun a b : Int => decide (b ≤ a)) (s := leD true) (f := D.int) (fun a _ b _ => (congrFun (congrFun (PySem.W.dataGe_int (fun b : Int => b)) a) b).symm)).symm
theorem dn_perm (ns : List Int) : (dn ns).Perm ns := List.mergeSort_perm _ _
theorem up_perm (ns : List Int) : (up ns).Perm ns := List.mergeSort_perm _ _
theorem dn_len (ns : List Int) : (dn ns).length = ns.length := (dn_perm ns).length_eq
theorem dn_sorted (ns : List Int) : (dn ns).Pairwise fun a b => b ≤ a := by
  have h := List.pairwise_mergeSort (le := fun a b : Int => decide (b ≤ a)) (fun a b c h1 h2 => decide_eq_true (Int.le_trans (of_decide_eq_true h2) (of_decide_eq_true h1))) (fun a b => by
    by_cases h : b ≤ a
    · simp [h]
    · have : a ≤ b := by omega
      simp [this]) ns
  exact h.imp fun h => of_decide_eq_true h
theorem up_sorted (ns : List Int) : (up ns).Pairwise fun a b => a ≤ b := by
  have h := List.pairwise_mergeSort (le := fun a b : Int => decide (a ≤ b)) (fun a b c h1 h2 => decide_eq_true (Int.le_trans (of_decide_eq_true h1) (of_decide_eq_true h2))) (fun a b => by
    by_cases h : a ≤ b
    · simp [h]
    · have : b ≤ a := by omega
      simp [this]) ns
  exact h.imp fun h => of_decide_eq_true h
def F_is_integer : Fn := fun ds Q _ => ∃ x, ds = [x] ∧ kd x ∧ Q (.bl (isI x))
def F_is_from : Fn := fun ds Q _ => ∃ x a b, ds = [x, .int a, .int b] ∧ kd x ∧ Q (.bl (inR x a b))
def F_is_amount : Fn := fun ds Q _ => ∃ x, ds = [x] ∧ kd x ∧ Q (.bl (inR x 0 maxN))
def F_is_row : Fn := fun ds Q _ => ∃ x, ds = [x] ∧ kds x ∧ Q (.bl (isRow x))
def F_require_row : Fn := fun ds Q _ => ∃ x, ds = [x] ∧ kds x ∧ isRow x = true ∧ Q .non
def F_falling : Fn := fun ds Q _ => ∃ ns, ds = [Ti ns] ∧ Q (Ti (dn ns))
def F_draw : Fn := fun ds Q _ => ∃ p n, ds = [.box p, .int n] ∧ 0 < n ∧ n < 2 ^ 200 ∧ ∀ r, 0 ≤ r → r < n → Q (.int r)
def F_pick : Fn := fun ds Q _ => ∃ p x xs, ds = [.box p, x] ∧ dItems x = some xs ∧ xs ≠ [] ∧ xs.length ≤ 1000000 ∧ ∀ y ∈ xs, Q y
def F_mixed : Fn := fun ds Q _ => ∃ p x xs, ds = [.box p, x] ∧ dItems x = some xs ∧ xs.length < 1000000 ∧ ∀ ys, ys.Perm xs → Q (.lst ys)
def F_newbox : Fn := fun ds Q _ => ∃ ns i, ds = [.scr ns, .int i] ∧ 0 ≤ i ∧ i ≤ 1000 ∧ ns.length ≤ 1000 ∧ ∀ p, Q (.box p)
theorem pure_is_integer (ds : List D) (Q : D → Prop) (Ex : Xc → Prop) (h : F_is_integer ds Q Ex) : (sRet (wAnd (w1 (dIsi "int") (wVar 0)) (wNot (w1 (dIsi "bool") (wVar 0))))) (dEnds Q Ex) (startE ["value"] ds) := by
  obtain ⟨x, rfl, k, q⟩ := h
  cases x with
  | int i => exact br_tt rfl q
  | bl b => exact br_tt rfl q
  | non => exact br_ff rfl q
  | str x => exact br_ff rfl q
  | tup x => exact br_ff rfl q
  | lst x => exact br_ff rfl q
  | dic x => exact br_ff rfl q
  | _ => cases k
theorem pure_is_from (ds : List D) (Q : D → Prop) (Ex : Xc → Prop) (h : F_is_from ds Q Ex) : (sRet (wAnd (wCall F_is_integer (wCons (wVar 0) wNil)) (wChain dLe dLe (wVar 1) (wVar 0) (wVar 2)))) (dEnds Q Ex) (startE ["value", "first", "last"] ds) := by
  obtain ⟨x, a, b, rfl, k, q⟩ := h
  refine ⟨x, rfl, k, br_of (fun h => ?_) (fun h => ?_)⟩
  · cases x with
    | int i =>
      refine br_if (fun h1 => ?_) (fun h1 => ?_)
      · have e : inR (.int i) a b = decide (i ≤ b) := by simp [inR, h1]
        rw [e] at q
        exact q
      · have e : inR (.int i) a b = false := by simp [inR, h1]
        rw [e] at q
        exact q
    | _ => cases h
  · have e : inR x a b = false := by
      cases x with
      | int i => cases h
      | _ => rfl
    rw [e] at q
    exact q
theorem comp_enc {α : Type} {v : Nat} {t : W Bool} {e : W D} {Q : List D → PEnv → Prop} (E : Option Sl → PEnv) (enc h : α → D) (p : α → Bool) : ∀ (as : List α) (s0 : Option Sl) (acc : List D), (∀ s x, (wipeE (E s) [v]).set v (some (.d x)) = E (some (.d x))) →
    (∀ a ∈ as, ∀ (K : Bool → PEnv → Prop) ex, K (p a) (E (some (.d (enc a)))) → t (E (some (.d (enc a)))) K ex) → (∀ a ∈ as, p a = true → ∀ (K : D → PEnv → Prop) ex, K (h a) (E (some (.d (enc a)))) → e (E (some (.d (enc a)))) K ex) →
    (∀ s, Q (acc ++ ((as.filter p).map h)) (E s)) → compW (gNm v) t e [v] Q (as.map enc) (E s0) acc
  | [], s0, acc, _, _, _, hQ => by
    have := hQ s0
    simpa [compW] using this
  | a :: as, s0, acc, hE, ht, he, hQ => by
    show t ((wipeE (E s0) [v]).set v (some (.d (enc a)))) _ _
    rw [hE]
    refine ht a List.mem_cons_self _ _ (br_of (fun hp => ?_) (fun hp => ?_))
    · refine he a List.mem_cons_self hp _ _ (comp_enc E enc h p as _ _ hE (fun b hb => ht b (List.mem_cons_of_mem _ hb)) (fun b hb => he b (List.mem_cons_of_mem _ hb)) fun s => ?_)
      have := hQ s
      rw [List.filter_cons_of_pos hp, List.map_cons] at this
      rw [List.append_assoc]
      exact this
    · refine comp_enc E enc h p as _ _ hE (fun b hb => ht b (List.mem_cons_of_mem _ hb)) (fun b hb => he b (List.mem_cons_of_mem _ hb)) fun s => ?_
      have := hQ s
      rw [List.filter_cons_of_neg (by rw [hp]; exact Bool.false_ne_true)] at this
      exact this
theorem comp_all {α : Type} {v : Nat} {e : W D} {Q : List D → PEnv → Prop} (E : Option Sl → PEnv) (enc h : α → D) (as : List α) (s0 : Option Sl) (acc : List D) (hE : ∀ s x, (wipeE (E s) [v]).set v (some (.d x)) = E (some (.d x)))
    (he : ∀ a ∈ as, ∀ (K : D → PEnv → Prop) ex, K (h a) (E (some (.d (enc a)))) → e (E (some (.d (enc a)))) K ex) (hQ : ∀ s, Q (acc ++ as.map h) (E s)) : compW (gNm v) (W.ret true) e [v] Q (as.map enc) (E s0) acc :=
  comp_enc E enc h (fun _ => true) as s0 acc hE (fun a ha K ex k => k) (fun a ha _ => he a ha) fun s => by
    rw [List.filter_eq_self.mpr fun _ _ => rfl]
    exact hQ s
theorem comp_pair {α : Type} {v u : Nat} {t : W Bool} {e : W D} {Q : List D → PEnv → Prop} (E : Option Sl → Option Sl → PEnv) (e1 e2 h : α → D) (p : α → Bool) : ∀ (as : List α) (s0 s1 : Option Sl) (acc : List D), (∀ s z x y, ((wipeE (E s z) [v, u]).set v (some (.d x))).set u (some (.d y)) = E (some (.d x)) (some (.d y))) →
    (∀ a ∈ as, ∀ (K : Bool → PEnv → Prop) ex, K (p a) (E (some (.d (e1 a))) (some (.d (e2 a)))) → t (E (some (.d (e1 a))) (some (.d (e2 a)))) K ex) → (∀ a ∈ as, p a = true → ∀ (K : D → PEnv → Prop) ex, K (h a) (E (some (.d (e1 a))) (some (.d (e2 a)))) → e (E (some (.d (e1 a))) (some (.d (e2 a)))) K ex) →
    (∀ s z, Q (acc ++ ((as.filter p).map h)) (E s z)) → compW (gTupP (gsCons (gNm v) (gsCons (gNm u) gsNil)) 2) t e [v, u] Q (as.map fun a => .tup [e1 a, e2 a]) (E s0 s1) acc
  | [], s0, s1, acc, _, _, _, hQ => by
    have := hQ s0 s1
    simpa [compW] using this
  | a :: as, s0, s1, acc, hE, ht, he, hQ => by
    refine ⟨rfl, ?_⟩
    show t (((wipeE (E s0 s1) [v, u]).set v (some (.d (e1 a)))).set u (some (.d (e2 a)))) _ _
    rw [hE]
    refine ht a List.mem_cons_self _ _ (br_of (fun hp => ?_) (fun hp => ?_))
    · refine he a List.mem_cons_self hp _ _ (comp_pair E e1 e2 h p as _ _ _ hE (fun b hb => ht b (List.mem_cons_of_mem _ hb)) (fun b hb => he b (List.mem_cons_of_mem _ hb)) fun s z => ?_)
      have := hQ s z
      rw [List.filter_cons_of_pos hp, List.map_cons] at this
      rw [List.append_assoc]
      exact this
    · refine comp_pair E e1 e2 h p as _ _ _ hE (fun b hb => ht b (List.mem_cons_of_mem _ hb)) (fun b hb => he b (List.mem_cons_of_mem _ hb)) fun s z => ?_
      have := hQ s z
      rw [List.filter_cons_of_neg (by rw [hp]; exact Bool.false_ne_true)] at this
      exact this
theorem cut_from {α : Type} (xs : List α) (k : Nat) : Pd.cutD xs (some (k : Int)) none = xs.drop k := by
  unfold Pd.cutD
  rw [HT.sIx_nat, HT.sIx_none]
  by_cases h : k ≤ xs.length
  · rw [Nat.min_eq_left h]
    exact List.take_of_length_le (by rw [List.length_drop]; exact Nat.le_refl _)
  · rw [Nat.min_eq_right (by omega), Nat.sub_self, List.take_zero, List.drop_eq_nil_of_le (by omega)]
theorem upTo_nil {a b : Int} (h : b ≤ a) : Pd.upTo a b = [] := by
  unfold Pd.upTo
  have : (b - a).toNat = 0 := by omega
  rw [this]
  rfl
theorem upTo_cons {a b : Int} (h : a < b) : Pd.upTo a b = .int a :: Pd.upTo (a + 1) b := by
  unfold Pd.upTo
  have e : (b - a).toNat = (b - (a + 1)).toNat + 1 := by omega
  rw [e, List.range_succ_eq_map, List.map_cons, List.map_map]
  refine List.cons_eq_cons.mpr ⟨?_, List.map_congr_left fun k _ => ?_⟩
  · simp
  · show D.int (a + ((k + 1 : Nat) : Int)) = D.int (a + 1 + (k : Int))
    have : a + ((k + 1 : Nat) : Int) = a + 1 + (k : Int) := by omega
    rw [this]
end Pd

namespace Ph
open PySem PySem.Spec PyProof.Rows L2 LamX Pd
def rowI (ns : List Int) : Prop := ns ≠ [] ∧ ns.length ≤ 64 ∧ ∀ n ∈ ns, 0 ≤ n ∧ n ≤ maxN
def bad : Xc := ⟨"InvalidSums", []⟩
def heads : List Int → Int → List Int
  | [], _ => []
  | x :: xs, t => (t + x) :: heads xs (t + x)
def exs (ns : List Int) (m : Int) : Int := ((ns.filter fun x => decide (m < x)).map fun x => x - m).sum
abbrev F_is_integer := Pd.F_is_integer
abbrev F_is_from := Pd.F_is_from
abbrev F_is_amount := Pd.F_is_amount
abbrev F_is_row := Pd.F_is_row
def F_falling : Fn := fun ds Q _ => ∃ x ns, ds = [x] ∧ dItems x = some (ns.map D.int) ∧ Q (Ti (dn ns))
abbrev F_L_ladle := Pd.F_draw
abbrev F_L_pick := Pd.F_pick
abbrev F_L_mixed := Pd.F_mixed
abbrev F_L_bowl := Pd.F_newbox
def F_require_row : Fn := fun ds Q Ex => ∃ x, ds = [x] ∧ kds x ∧ (isRow x = true → Q .non) ∧ (isRow x = false → Ex bad)
def F_prefixes : Fn := fun ds Q _ => ∃ ns, ds = [Ti ns] ∧ ns.length ≤ 1000 ∧ Q (Li (heads (dn ns) 0))
def F_L_great : Fn := fun ds Q _ => ∃ p, ds = [.box p] ∧ ∀ n : Int, 0 ≤ n → n < 10 ^ 28 → Q (.int n)
def F_L_down : Fn := fun ds Q _ => ∃ x ns, ds = [x] ∧ dItems x = some (ns.map D.int) ∧ ns.length ≤ 1000 ∧ Q (Ti (dn ns))
def F_L_heads : Fn := fun ds Q _ => ∃ x ns, ds = [x] ∧ dItems x = some (ns.map D.int) ∧ ns.length ≤ 1000 ∧ Q (Li (heads (dn ns) 0))
def F_L_dealt : Fn := fun ds Q _ => ∃ p t l, ds = [.box p, .int t, .int l] ∧ 0 ≤ t ∧ t < 10 ^ 60 ∧ 1 ≤ l ∧ l ≤ 64 ∧ ∀ ns : List Int, (ns.length : Int) = l → (∀ n ∈ ns, 0 ≤ n) → ns.sum = t → Q (Ti ns)
def F_L_drawn_row : Fn := fun ds Q _ => ∃ p m, ds = [.box p, .int m] ∧ 0 < m ∧ m ≤ 60 ∧ ∀ ns : List Int, ns ≠ [] → (ns.length : Int) ≤ m → (∀ n ∈ ns, 0 ≤ n ∧ n < 10 ^ 28) → Q (Ti ns)
def oddL : List D := [.non, .int 0, .tup [], Li [1, 2], Ti [1, -1], .tup [.bl true, .int 0], .tup [.int 1, .non], .tup [.str "1"], .tup [.int 1, Ti [0]], .str "", .dic [], Ti [10 ^ 30], .tup (List.replicate 65 (.int 0)),
  .dic [(Sum.inl 0, .int 1)], .tup [Ti [1, 0]], Ti [1, 0, 10 ^ 39], .bl false, .lst [.tup []], .tup [.int 0, .bl false]]
def F_L_odd_row : Fn := fun ds Q _ => ∃ p, ds = [.box p] ∧ ∀ x ∈ oddL, Q x
end Ph

namespace Ph
open PySem PySem.Spec PyProof.Rows L2 LamX Pd
def N_is_integer : List Str := ["value"]
def w_is_integer : WS := (sRet (wAnd (w1 (dIsi "int") (wVar 0)) (wNot (w1 (dIsi "bool") (wVar 0)))))
def N_is_from : List Str := ["value", "first", "last"]
def w_is_from : WS := (sRet (wAnd (wCall F_is_integer (wCons (wVar 0) wNil)) (wChain dLe dLe (wVar 1) (wVar 0) (wVar 2))))
def N_is_amount : List Str := ["value"]
def w_is_amount : WS := (sRet (wCall F_is_from (wCons (wVar 0) (wCons (W.ret (.int 0)) (wCons (W.ret (.int 999999999999999999999999999999)) wNil)))))
def N_is_row : List Str := ["value", "entry"]
def w_is_row : WS := (sSeq (sIf (tOrP (tNotP (wTest (w1 (dIsi "tuple") (wVar 0)))) (tNotP (wTest (wCall F_is_from (wCons (w1 dLen (wVar 0)) (wCons (W.ret (.int 1)) (wCons (W.ret (.int 64)) wNil))))))) (sRet (W.ret (.bl false))) sNil) (sRet (x1 fAll (wLst (wComp (wItems (wVar 0)) (gNm 1) (W.ret true) (wCall F_is_amount (wCons (wVar 1) wNil)) [1])))))
def N_falling : List Str := ["row"]
def w_falling : WS := (sRet (w1 dTuple (wLst (wSort true (wVar 0)))))
def N_L_ladle : List Str := ["_law_bowl_here", "_law_size", "_law_one", "_law_two", "_law_found"]
def w_L_ladle : WS := (sSeq (sIf (wTest (wBin dGt (wBoxGet (wVar 0) (W.ret (.int 0))) (W.ret (.int 0)))) (sSeq (sSet 4 (xBin fMod (w1 dInt (wBoxGet (wVar 0) (W.ret (.int 0)))) (wVar 1))) (sSeq (sBoxSet 0 0 (xBin fDiv (wBoxGet (wVar 0) (W.ret (.int 0))) (wVar 1))) (sRet (wVar 4)))) sNil) (sSeq (sBoxSet 0 2 (xBin fAdd (wBoxGet (wVar 0) (W.ret (.int 2))) (W.ret (.int 1)))) (sSeq (sSet 2 (xBin fMod (w1 dInt (xBin fAdd (wBoxGet (wVar 0) (W.ret (.int 1))) (xBin fMul (W.ret (.int 1000357)) (wBoxGet (wVar 0) (W.ret (.int 2)))))) (W.ret (.int 2305843009213693951)))) (sSeq (sSet 3 (xBin fAdd (xBin fMul (xBin fMod (w1 dInt (xBin fMul (wVar 2) (wVar 2))) (W.ret (.int 2305843009213693907))) (wVar 2)) (xBin fMul (W.ret (.int 6121)) (wBoxGet (wVar 0) (W.ret (.int 2)))))) (sRet (xBin fMod (w1 dInt (xBin fDiv (xBin fMod (w1 dInt (wVar 3)) (W.ret (.int 2305843009213693921))) (W.ret (.int 32768)))) (wVar 1)))))))
def N_L_pick : List Str := ["_law_bowl_here", "_law_items"]
def w_L_pick : WS := (sRet (xBin fIdx (wVar 1) (wCall F_L_ladle (wCons (wVar 0) (wCons (w1 dLen (wVar 1)) wNil)))))
def N_L_mixed : List Str := ["_law_bowl_here", "_law_items", "_law_left", "_law_turn"]
def w_L_mixed : WS := (sSeq (sSetOwn 2 (w1F dItems (wVar 1))) (sRet (wLst (wComp (wRng1 (w1 dLen (wVar 1))) (gNm 3) (W.ret true) (wPopAt 2 (wCall F_L_ladle (wCons (wVar 0) (wCons (w1 dLen (wOwn 2)) wNil)))) [3]))))
def N_L_bowl : List Str := ["_law_script", "_law_at", "_law_cell", "_law_great_here", "_law_seed"]
def w_L_bowl : WS := (sSeq (sSet 2 (wIf (wTest (wBin dLt (wVar 1) (w1 dLen (wVar 0)))) (xBin fIdx (wVar 0) (wVar 1)) (xBin fAdd (xBin fMul (W.ret (.int 127)) (wVar 1)) (W.ret (.int 53))))) (sSeq (sSet 3 (xBin fMod (w1 dInt (wN dAbs (wCons (wVar 2) wNil))) (xBin fPow (xBin fPow (W.ret (.int 10)) (W.ret (.int 60))) (W.ret (.int 10))))) (sSeq (sSet 4 (xBin fAdd (xBin fAdd (xBin fAdd (xBin fMul (xBin fMod (w1 dInt (wVar 3)) (W.ret (.int 2147483399))) (W.ret (.int 50077))) (xBin fMul (W.ret (.int 3929)) (wVar 1))) (xBin fMul (W.ret (.int 71)) (w1 dInt (wBin dLt (wVar 2) (W.ret (.int 0)))))) (W.ret (.int 37)))) (sRet (wBox (wSz (wCons (wN dMax2 (wCons (W.ret (.int 0)) (wCons (wBin dSub (wVar 3) (xBin fPow (W.ret (.int 10)) (W.ret (.int 18)))) wNil))) (wCons (xBin fMod (w1 dInt (wVar 4)) (W.ret (.int 2305843009213693921))) (wCons (W.ret (.int 0)) wNil)))))))))
def N_require_row : List Str := ["value"]
def w_require_row : WS := (sIf (tNotP (wTest (wCall F_is_row (wCons (wVar 0) wNil)))) (sRaise "InvalidSums") sNil)
def N_prefixes : List Str := ["row", "entry", "found", "total"]
def w_prefixes : WS := (sSeq (sParM2 2 3 (mF (wSz wNil) (mE (W.ret (.int 0)) mNil))) (sSeq (sFor (wItems (wCall F_falling (wCons (wVar 0) wNil))) (gNm 1) (sSeq (sAug 3 iAdd (wVar 1)) (sDrop (wAppend 2 (wVar 3))))) (sRet (wFrz 2))))
def N_L_great : List Str := ["_law_bowl_here", "_law_parts", "_law_below", "_law_turn"]
def w_L_great : WS := (sSeq (sParM2 1 2 (mE (wLst (wComp (wRng1 (W.ret (.int 3))) (gNm 3) (W.ret true) (wCall F_L_ladle (wCons (wVar 0) (wCons (xBin fPow (W.ret (.int 10)) (W.ret (.int 10))) wNil))) [3])) (mE (wLst (wSz (wCons (xBin fPow (W.ret (.int 10)) (W.ret (.int 28))) (wCons (W.ret (.int 1000)) (wCons (xBin fPow (W.ret (.int 10)) (W.ret (.int 12))) (wCons (xBin fPow (W.ret (.int 10)) (W.ret (.int 28))) wNil)))))) mNil))) (sRet (xBin fMod (w1 dInt (xBin fAdd (xBin fAdd (xBin fMul (xBin fIdx (wVar 1) (W.ret (.int 0))) (xBin fPow (W.ret (.int 10)) (W.ret (.int 20)))) (xBin fMul (xBin fIdx (wVar 1) (W.ret (.int 1))) (xBin fPow (W.ret (.int 10)) (W.ret (.int 10))))) (xBin fIdx (wVar 1) (W.ret (.int 2))))) (wCall F_L_pick (wCons (wVar 0) (wCons (wVar 2) wNil))))))
def N_L_down : List Str := ["_law_row"]
def w_L_down : WS := (sRet (w1 dTuple (wLst (wRev (wLst (wSort false (wVar 0)))))))
def N_L_heads : List Str := ["_law_row", "_law_entry", "_law_found", "_law_total"]
def w_L_heads : WS := (sSeq (sParM2 2 3 (mF (wSz wNil) (mE (W.ret (.int 0)) mNil))) (sSeq (sFor (wItems (wCall F_L_down (wCons (wVar 0) wNil))) (gNm 1) (sSeq (sSet 3 (xBin fAdd (wVar 3) (wVar 1))) (sDrop (wAppend 2 (wVar 3))))) (sRet (wFrz 2))))
def N_L_dealt : List Str := ["_law_bowl_here", "_law_total", "_law_length", "_law_cuts", "_law_turn", "_law_ends", "_law_share", "_law_first", "_law_later"]
def w_L_dealt : WS := (sSeq (sSetOwn 3 (wSz wNil)) (sSeq (sFor (wRng1 (wBin dSub (wVar 2) (W.ret (.int 1)))) (gNm 4) (sSeq (sSet 6 (wCall F_L_ladle (wCons (wVar 0) (wCons (W.ret (.int 1001)) wNil)))) (sDrop (wAppend 3 (wN dMin2 (wCons (wVar 1) (wCons (wN dMax2 (wCons (W.ret (.int 0)) (wCons (wBin dSub (xBin fAdd (xBin fDiv (xBin fMul (wVar 1) (wVar 6)) (W.ret (.int 1000))) (wCall F_L_ladle (wCons (wVar 0) (wCons (W.ret (.int 5)) wNil)))) (W.ret (.int 2))) wNil))) wNil))))))) (sSeq (sSet 5 (xBin fAdd (xBin fAdd (wLst (wSz (wCons (W.ret (.int 0)) wNil))) (wLst (wSort false (wOwn 3)))) (wLst (wSz (wCons (wVar 1) wNil))))) (sRet (w1 dTuple (wLst (wComp (wZip (wVar 5) (wSl (wVar 5) (wPart (W.ret (.int 1))) (W.ret none))) (gTupP (gsCons (gNm 7) (gsCons (gNm 8) gsNil)) 2) (W.ret true) (wBin dSub (wVar 8) (wVar 7)) [7, 8])))))))
def N_L_drawn_row : List Str := ["_law_bowl_here", "_law_most", "_law_length", "_law_way", "_law_turn"]
def w_L_drawn_row : WS := (sSeq (sAsg (wTup (wCons (xBin fAdd (W.ret (.int 1)) (wCall F_L_ladle (wCons (wVar 0) (wCons (wVar 1) wNil)))) (wCons (wCall F_L_ladle (wCons (wVar 0) (wCons (W.ret (.int 4)) wNil))) wNil))) (gTupP (gsCons (gNm 2) (gsCons (gNm 3) gsNil)) 2)) (sSeq (sIf (wTest (xBin fEq (wVar 3) (W.ret (.int 0)))) (sRet (w1 dTuple (wLst (wComp (wRng1 (wVar 2)) (gNm 4) (W.ret true) (wCall F_L_great (wCons (wVar 0) wNil)) [4])))) sNil) (sSeq (sIf (wTest (xBin fEq (wVar 3) (W.ret (.int 1)))) (sRet (wCall F_L_dealt (wCons (wVar 0) (wCons (wCall F_L_great (wCons (wVar 0) wNil)) (wCons (wVar 2) wNil))))) sNil) (sRet (w1 dTuple (wLst (wComp (wRng1 (wVar 2)) (gNm 4) (W.ret true) (wCall F_L_ladle (wCons (wVar 0) (wCons (xBin fIdx (wLst (wSz (wCons (W.ret (.int 4)) (wCons (W.ret (.int 8)) wNil)))) (wBin dSub (wVar 3) (W.ret (.int 2)))) wNil))) [4])))))))
def N_L_odd_row : List Str := ["_law_bowl_here", "_law_some"]
def w_L_odd_row : WS := (sSeq (sSet 1 (wLst (wSz (wCons (W.ret .non) (wCons (W.ret (.int 0)) (wCons (wTup wNil) (wCons (wLst (wSz (wCons (W.ret (.int 1)) (wCons (W.ret (.int 2)) wNil)))) (wCons (wTup (wCons (W.ret (.int 1)) (wCons (wNeg (W.ret (.int 1))) wNil))) (wCons (wTup (wCons (W.ret (.bl true)) (wCons (W.ret (.int 0)) wNil))) (wCons (wTup (wCons (W.ret (.int 1)) (wCons (W.ret .non) wNil))) (wCons (wTup (wCons (W.ret (.str "1")) wNil)) (wCons (wTup (wCons (W.ret (.int 1)) (wCons (wTup (wCons (W.ret (.int 0)) wNil)) wNil))) (wCons (W.ret (.str "")) (wCons (W.ret (.dic [])) (wCons (wTup (wCons (xBin fPow (W.ret (.int 10)) (W.ret (.int 30))) wNil)) (wCons (xBin fMul (wTup (wCons (W.ret (.int 0)) wNil)) (W.ret (.int 65))) wNil)))))))))))))))) (sRet (wCall F_L_pick (wCons (wVar 0) (wCons (xBin fAdd (wVar 1) (wLst (wSz (wCons (W.ret (.dic [(Sum.inl 0, .int 1)])) (wCons (wTup (wCons (wTup (wCons (W.ret (.int 1)) (wCons (W.ret (.int 0)) wNil))) wNil)) (wCons (wTup (wCons (W.ret (.int 1)) (wCons (W.ret (.int 0)) (wCons (xBin fPow (W.ret (.int 10)) (W.ret (.int 39))) wNil)))) (wCons (W.ret (.bl false)) (wCons (wLst (wSz (wCons (wTup wNil) wNil))) (wCons (wTup (wCons (W.ret (.int 0)) (wCons (W.ret (.bl false)) wNil))) wNil))))))))) wNil)))))
end Ph

namespace Ph
open PySem PySem.Spec PyProof.Rows L2 LamX Pd
theorem log_lt {n : Int} (h0 : 0 < n) (h : n < 2 ^ 200) : n.natAbs.log2 < 9000 := by
  have h1 : n.natAbs < 2 ^ 200 := by
    have : (n.natAbs : Int) = n := Int.natAbs_of_nonneg (by omega)
    omega
  exact Nat.lt_of_lt_of_le (PySem.Flt.log2_lt_of (by decide) h1) (by decide)
theorem bok0 {g : Int} (h : bokB 0 g) : 0 ≤ g ∧ g < 2 ^ 4000 := ⟨h.1, by
  rcases h.2 with b | b | b
  · exact b.2
  · exact absurd b.1 (by decide)
  · exact absurd b (by decide)⟩
theorem pure_L_ladle (ds : List D) (Q : D → Prop) (Ex : Xc → Prop) (h : F_L_ladle ds Q Ex) : w_L_ladle (dEnds Q Ex) (startE N_L_ladle ds) := by
  obtain ⟨p, n, rfl, n0, n1, q⟩ := h
  have lg := log_lt n0 n1
  refine ⟨by decide, by decide, fun g hg => br_if (fun hp => ?_) (fun hp => ?_)⟩
  · refine ⟨by decide, by decide, fun g1 hg1 => ⟨n0, ?_⟩⟩
    refine ⟨by decide, by decide, fun g2 hg2 => ⟨⟨n0, lg⟩, by decide, by decide, ?_, ?_⟩⟩
    · obtain ⟨a, b⟩ := bok0 hg2
      exact ⟨Int.ediv_nonneg a (Int.le_of_lt n0), .inl ⟨rfl, Int.lt_of_le_of_lt (Int.ediv_le_self _ a) b⟩⟩
    · exact q _ (Int.emod_nonneg _ (by omega)) (Int.emod_lt_of_pos _ n0)
  · refine ⟨by decide, by decide, fun c hc => ⟨by decide, by decide, ⟨by have := hc.1; omega, .inr (.inr rfl)⟩, ?_⟩⟩
    refine ⟨by decide, by decide, fun s1 hs1 => ⟨by decide, by decide, fun c1 hc1 => ⟨.inl (.inl (by decide)), by decide, ?_⟩⟩⟩
    have sm : ∀ z : Int, (z % 2305843009213693951).natAbs < 2 ^ 64 := fun z => by omega
    refine ⟨.inl (.inl (sm _)), by decide, ⟨.inl (.inr (sm _)), ⟨by decide, by decide, fun c2 hc2 => ⟨.inl (.inl (by decide)), ?_⟩⟩⟩⟩
    refine ⟨by decide, ⟨by decide, by decide⟩, n0, ?_⟩
    exact q _ (Int.emod_nonneg _ (by omega)) (Int.emod_lt_of_pos _ n0)
theorem len_L_ladle (ds : List D) (Q : D → Prop) (Ex : Xc → Prop) (h : F_L_ladle ds Q Ex) : ds.length = 2 := by
  obtain ⟨p, n, rfl, _⟩ := h
  rfl
theorem atI_nat {α : Type} {xs : List α} {r : Int} {x : α} (h0 : 0 ≤ r) (h : xs[r.toNat]? = some x) : atI xs r = some x := by
  have hl := (List.getElem?_eq_some_iff.mp h).1
  unfold atI ixN
  rw [if_pos h0, if_pos (by omega)]
  exact h
theorem idx_items {x : D} {xs : List D} {r : Int} {y : D} (hx : dItems x = some xs) (h0 : 0 ≤ r) (h : xs[r.toNat]? = some y) : dIdx x (.int r) = some y := by
  cases x with
  | lst ys =>
    cases hx
    exact atI_nat h0 h
  | tup ys =>
    cases hx
    exact atI_nat h0 h
  | _ => cases hx
theorem items_or {x : D} {xs : List D} (hx : dItems x = some xs) : x = .lst xs ∨ x = .tup xs := by
  cases x with
  | lst ys =>
    cases hx
    exact .inl rfl
  | tup ys =>
    cases hx
    exact .inr rfl
  | _ => cases hx
theorem pure_L_pick (ds : List D) (Q : D → Prop) (Ex : Xc → Prop) (h : F_L_pick ds Q Ex) : w_L_pick (dEnds Q Ex) (startE N_L_pick ds) := by
  obtain ⟨p, x, xs, rfl, hx, ne, hl, q⟩ := h
  have l0 : 0 < xs.length := List.length_pos_iff.mpr ne
  have key : ∀ r : Int, 0 ≤ r → r < xs.length → ∃ z, dIdx x (.int r) = some z ∧ Q z := fun r h0 h1 => by
    have hr : r.toNat < xs.length := by omega
    exact ⟨_, idx_items hx h0 (List.getElem?_eq_getElem hr), q _ (List.getElem_mem hr)⟩
  rcases items_or hx with rfl | rfl
  · exact ⟨p, _, rfl, by omega, by omega, key⟩
  · exact ⟨p, _, rfl, by omega, by omega, key⟩
theorem len_L_pick (ds : List D) (Q : D → Prop) (Ex : Xc → Prop) (h : F_L_pick ds Q Ex) : ds.length = 2 := by
  obtain ⟨p, x, xs, rfl, _⟩ := h
  rfl
theorem upTo_length (a b : Int) : (Pd.upTo a b).length = (b - a).toNat := by
  unfold Pd.upTo
  rw [List.length_map, List.length_range]
theorem erase_perm {α : Type} : ∀ (l : List α) (i : Nat) (h : i < l.length), (l[i] :: l.eraseIdx i).Perm l
  | x :: xs, 0, _ => List.Perm.refl _
  | x :: xs, i + 1, h => by
    have ih := erase_perm xs i (by simpa using h)
    exact (List.Perm.swap _ _ _).trans (ih.cons x)
theorem pure_L_mixed (ds : List D) (Q : D → Prop) (Ex : Xc → Prop) (h : F_L_mixed ds Q Ex) : w_L_mixed (dEnds Q Ex) (startE N_L_mixed ds) := by
  obtain ⟨p, x, xs, rfl, hx, hl, q⟩ := h
  have main : w_L_mixed (dEnds Q Ex) (startE N_L_mixed [D.box p, x]) ↔ True := by
    refine ⟨fun _ => trivial, fun _ => ?_⟩
    rcases items_or hx with rfl | rfl
    all_goals
      refine ⟨by omega, by omega, ?_⟩
      refine compW_ind (fun rest env acc => ∃ (ys : List D) (s : Option Sl) (it : D), env = [some (.d (.box p)), some (.d it), some (.own ys), s] ∧ ys.length = rest.length ∧ (ys ++ acc).Perm xs) ?_ ?_ _ _ _ ?_
      · rintro t rest env acc ⟨ys, s, it, rfl, hl2, pm⟩ ih
        refine br_tt rfl ?_
        refine ⟨p, _, rfl, by rw [hl2]; simp, ?_, fun r h0 h1 => ⟨h0, ?_, ?_⟩⟩
        · have : ys.length ≤ xs.length := by
            have := pm.length_eq
            rw [List.length_append] at this
            omega
          omega
        · have : ys.length ≤ xs.length := by
            have := pm.length_eq
            rw [List.length_append] at this
            omega
          omega
        · have hr : r.toNat < ys.length := by omega
          refine ⟨ys[r.toNat], List.getElem?_eq_getElem hr, ih _ _ ⟨ys.eraseIdx r.toNat, _, it, rfl, ?_, ?_⟩⟩
          · rw [List.length_eraseIdx_of_lt hr, hl2]
            rfl
          · refine List.Perm.trans ?_ pm
            have p1 : (ys[r.toNat] :: ys.eraseIdx r.toNat).Perm ys := erase_perm ys r.toNat hr
            refine List.Perm.trans ?_ (p1.append_right acc)
            rw [← List.append_assoc]
            exact (List.perm_append_comm (l₁ := ys.eraseIdx r.toNat ++ acc) (l₂ := [ys[r.toNat]]))
      · rintro env acc ⟨ys, s, it, rfl, hl2, pm⟩
        have e : ys = [] := List.eq_nil_of_length_eq_zero hl2
        rw [e] at pm
        exact q _ pm
      · exact ⟨xs, none, _, rfl, by rw [upTo_length]; omega, by rw [List.append_nil]⟩
  exact main.mpr trivial
theorem len_L_mixed (ds : List D) (Q : D → Prop) (Ex : Xc → Prop) (h : F_L_mixed ds Q Ex) : ds.length = 2 := by
  obtain ⟨p, x, xs, rfl, _⟩ := h
  rfl
theorem scr_at {ns : List Int} {i : Int} (h0 : 0 ≤ i) (h : i < ns.length) : ∃ n, dIdx (.scr ns) (.int i) = some (.int n) := by
  have hr : i.toNat < ns.length := by omega
  refine ⟨ns[i.toNat], ?_⟩
  show (atI ns i).map D.int = _
  rw [atI_nat h0 (List.getElem?_eq_getElem hr)]
  rfl
theorem box_ok {g m : Int} (h0 : 0 < m) (h : m ≤ 2 ^ 4000) (c : Int) (hc : 0 ≤ c) : 0 ≤ (if g % m - c > 0 then g % m - c else 0) ∧ (if g % m - c > 0 then g % m - c else 0) < 2 ^ 4000 := by
  have a := Int.emod_nonneg g (show m ≠ 0 by omega)
  have b := Int.emod_lt_of_pos g h0
  have p : (0 : Int) < 2 ^ 4000 := by decide
  split
  · omega
  · exact ⟨Int.le_refl _, p⟩
theorem pure_L_bowl (ds : List D) (Q : D → Prop) (Ex : Xc → Prop) (h : F_L_bowl ds Q Ex) : w_L_bowl (dEnds Q Ex) (startE N_L_bowl ds) := by
  obtain ⟨ns, i, rfl, i0, i1, hl, q⟩ := h
  refine br_if (fun h1 => ?_) (fun h1 => ?_)
  · obtain ⟨n, e⟩ := scr_at i0 h1
    refine ⟨_, e, ?_⟩
    refine ⟨by decide, by decide, by decide, ?_⟩
    refine ⟨by decide, .inl (.inr (by decide)), .inl (.inl (by decide)), .inl (.inl (by decide)), ?_⟩
    refine ⟨by decide, by decide, Nat.le_of_ble_eq_true rfl, ?_, q⟩
    obtain ⟨a, b⟩ := box_ok (g := if n < 0 then -n else n) (m := (10 ^ Int.toNat 60) ^ Int.toNat 10) (by decide) (by decide) (10 ^ Int.toNat 18) (by decide)
    exact ⟨a, b, Int.emod_nonneg _ (by decide), Int.lt_trans (Int.emod_lt_of_pos _ (by decide)) (by decide), by decide⟩
  · refine ⟨.inl (.inl (by decide)), ?_⟩
    refine ⟨by decide, by decide, by decide, ?_⟩
    refine ⟨by decide, .inl (.inr (by decide)), .inl (.inl (by decide)), .inl (.inl (by decide)), ?_⟩
    refine ⟨by decide, by decide, Nat.le_of_ble_eq_true rfl, ?_, q⟩
    obtain ⟨a, b⟩ := box_ok (g := if 127 * i + 53 < 0 then -(127 * i + 53) else 127 * i + 53) (m := (10 ^ Int.toNat 60) ^ Int.toNat 10) (by decide) (by decide) (10 ^ Int.toNat 18) (by decide)
    exact ⟨a, b, Int.emod_nonneg _ (by decide), Int.lt_trans (Int.emod_lt_of_pos _ (by decide)) (by decide), by decide⟩
theorem len_L_bowl (ds : List D) (Q : D → Prop) (Ex : Xc → Prop) (h : F_L_bowl ds Q Ex) : ds.length = 2 := by
  obtain ⟨ns, i, rfl, _⟩ := h
  rfl
theorem pure_is_integer (ds : List D) (Q : D → Prop) (Ex : Xc → Prop) (h : F_is_integer ds Q Ex) : w_is_integer (dEnds Q Ex) (startE N_is_integer ds) := Pd.pure_is_integer ds Q Ex h
theorem len_is_integer (ds : List D) (Q : D → Prop) (Ex : Xc → Prop) (h : F_is_integer ds Q Ex) : ds.length = 1 := by
  obtain ⟨x, rfl, _⟩ := h
  rfl
theorem pure_is_from (ds : List D) (Q : D → Prop) (Ex : Xc → Prop) (h : F_is_from ds Q Ex) : w_is_from (dEnds Q Ex) (startE N_is_from ds) := Pd.pure_is_from ds Q Ex h
theorem len_is_from (ds : List D) (Q : D → Prop) (Ex : Xc → Prop) (h : F_is_from ds Q Ex) : ds.length = 3 := by
  obtain ⟨x, a, b, rfl, _⟩ := h
  rfl
theorem pure_is_amount (ds : List D) (Q : D → Prop) (Ex : Xc → Prop) (h : F_is_amount ds Q Ex) : w_is_amount (dEnds Q Ex) (startE N_is_amount ds) := by
  obtain ⟨x, rfl, k, q⟩ := h
  exact ⟨x, 0, maxN, rfl, k, q⟩
theorem len_is_amount (ds : List D) (Q : D → Prop) (Ex : Xc → Prop) (h : F_is_amount ds Q Ex) : ds.length = 1 := by
  obtain ⟨x, rfl, _⟩ := h
  rfl
theorem pure_is_row (ds : List D) (Q : D → Prop) (Ex : Xc → Prop) (h : F_is_row ds Q Ex) : w_is_row (dEnds Q Ex) (startE N_is_row ds) := by
  obtain ⟨x, rfl, ⟨k, ks⟩, q⟩ := h
  cases x with
  | tup xs =>
    refine br_ff rfl ?_
    refine ⟨_, 1, 64, rfl, rfl, ?_⟩
    refine br_no ?_
    refine br_of (fun h1 => ?_) (fun h1 => ?_)
    · refine compW_ind (fun rest env acc => ∃ (pre : List D) (s : Option Sl), xs = pre ++ rest ∧ env = [some (.d (.tup xs)), s] ∧ acc = (pre.map fun x => inR x 0 maxN).map D.bl) ?_ ?_ _ _ _ ⟨[], none, rfl, rfl, rfl⟩
      · rintro x rest env acc ⟨pre, s, e, rfl, rfl⟩ ih
        refine br_tt rfl ⟨x, rfl, ks xs rfl x (by rw [e]; simp), ih _ _ ⟨pre ++ [x], _, by rw [e, List.append_assoc]; rfl, rfl, ?_⟩⟩
        rw [List.map_append, List.map_append]
        rfl
      · rintro env acc ⟨pre, s, e, rfl, rfl⟩
        refine ⟨_, rfl, ?_⟩
        have e2 : isRow (.tup xs) = (pre.map fun x => inR x 0 maxN).all id := by
          rw [List.append_nil] at e
          subst e
          have h2 : 1 ≤ xs.length ∧ xs.length ≤ 64 := by
            have h3 : (decide ((1 : Int) ≤ (xs.length : Int)) && decide ((xs.length : Int) ≤ 64)) = true := h1
            rw [Bool.and_eq_true, decide_eq_true_eq, decide_eq_true_eq] at h3
            omega
          show (decide (1 ≤ xs.length ∧ xs.length ≤ 64) && xs.all fun x => Pd.inR x 0 maxN) = _
          rw [decide_eq_true h2, Bool.true_and, List.all_map]
          rfl
        rw [← e2]
        exact q
    · have e2 : isRow (.tup xs) = false := by
        show (decide (1 ≤ xs.length ∧ xs.length ≤ 64) && xs.all fun x => Pd.inR x 0 maxN) = false
        have h2 : ¬ (1 ≤ xs.length ∧ xs.length ≤ 64) := by
          intro z
          have h3 : (decide ((1 : Int) ≤ (xs.length : Int)) && decide ((xs.length : Int) ≤ 64)) = false := h1
          rw [decide_eq_true (by omega), decide_eq_true (by omega)] at h3
          cases h3
        rw [decide_eq_false h2, Bool.false_and]
      rw [e2] at q
      exact q
  | non => exact br_tt rfl (br_tt rfl q)
  | bl _ => exact br_tt rfl (br_tt rfl q)
  | int _ => exact br_tt rfl (br_tt rfl q)
  | str _ => exact br_tt rfl (br_tt rfl q)
  | lst _ => exact br_tt rfl (br_tt rfl q)
  | dic _ => exact br_tt rfl (br_tt rfl q)
  | _ => cases k
theorem len_is_row (ds : List D) (Q : D → Prop) (Ex : Xc → Prop) (h : F_is_row ds Q Ex) : ds.length = 1 := by
  obtain ⟨x, rfl, _⟩ := h
  rfl
theorem pure_falling (ds : List D) (Q : D → Prop) (Ex : Xc → Prop) (h : F_falling ds Q Ex) : w_falling (dEnds Q Ex) (startE N_falling ds) := by
  obtain ⟨x, ns, rfl, hx, q⟩ := h
  refine ⟨_, hx, srt_ints ns, ?_⟩
  rw [ms_dn]
  exact q
theorem len_falling (ds : List D) (Q : D → Prop) (Ex : Xc → Prop) (h : F_falling ds Q Ex) : ds.length = 1 := by
  obtain ⟨x, ns, rfl, _⟩ := h
  rfl
end Ph

namespace Ph
open PySem PySem.Spec PyProof.Rows L2 LamX Pd
theorem isRow_true {x : D} (h : isRow x = true) : ∃ ns, x = Ti ns ∧ rowI ns := by
  cases x with
  | tup xs =>
    have h' : (decide (1 ≤ xs.length ∧ xs.length ≤ 64) && xs.all fun x => Pd.inR x 0 maxN) = true := h
    rw [Bool.and_eq_true, decide_eq_true_eq] at h'
    obtain ⟨⟨h1, h2⟩, h3⟩ := h'
    have key : ∀ {ys : List D}, (ys.all fun x => Pd.inR x 0 maxN) = true → ∃ ns : List Int, ys = ns.map D.int ∧ ∀ n ∈ ns, 0 ≤ n ∧ n ≤ maxN := fun {ys} => by
      induction ys with
      | nil => exact fun _ => ⟨[], rfl, fun n hn => by cases hn⟩
      | cons y ys ih =>
        intro h
        rw [List.all_cons, Bool.and_eq_true] at h
        obtain ⟨ns, rfl, hn⟩ := ih h.2
        cases y with
        | int i =>
          have hi : (decide (0 ≤ i) && decide (i ≤ maxN)) = true := h.1
          rw [Bool.and_eq_true, decide_eq_true_eq, decide_eq_true_eq] at hi
          exact ⟨i :: ns, rfl, fun n hn' => by
            rcases List.mem_cons.mp hn' with rfl | hn'
            · exact hi
            · exact hn n hn'⟩
        | _ => cases h.1
    obtain ⟨ns, rfl, hn⟩ := key h3
    rw [List.length_map] at h1 h2
    exact ⟨ns, rfl, fun e => by rw [e] at h1; simp at h1, h2, hn⟩
  | _ => cases h
theorem isRow_Ti {ns : List Int} (h : rowI ns) : isRow (Ti ns) = true := by
  show (decide (1 ≤ (ns.map D.int).length ∧ (ns.map D.int).length ≤ 64) && (ns.map D.int).all fun x => Pd.inR x 0 maxN) = true
  have h0 : 0 < ns.length := List.length_pos_iff.mpr h.1
  rw [Bool.and_eq_true, decide_eq_true_eq, List.length_map]
  refine ⟨⟨h0, h.2.1⟩, List.all_eq_true.mpr fun x hx => ?_⟩
  obtain ⟨n, hn, rfl⟩ := List.mem_map.mp hx
  have := h.2.2 n hn
  show (decide (0 ≤ n) && decide (n ≤ maxN)) = true
  rw [decide_eq_true this.1, decide_eq_true this.2]
  rfl
theorem Ti_inj {ns ms : List Int} (h : Ti ns = Ti ms) : ns = ms := by
  have h' : ns.map D.int = ms.map D.int := by injection h
  exact (List.map_inj_right (fun a b e => by injection e)).mp h'
theorem pure_require_row (ds : List D) (Q : D → Prop) (Ex : Xc → Prop) (h : F_require_row ds Q Ex) : w_require_row (dEnds Q Ex) (startE N_require_row ds) := by
  obtain ⟨x, rfl, k, e1, e2⟩ := h
  refine ⟨x, rfl, k, ?_⟩
  refine br_no (br_of (fun z => e1 z) fun z => e2 z)
theorem len_require_row (ds : List D) (Q : D → Prop) (Ex : Xc → Prop) (h : F_require_row ds Q Ex) : ds.length = 1 := by
  obtain ⟨x, rfl, _⟩ := h
  rfl
theorem heads_snoc : ∀ (xs : List Int) (t x : Int), heads (xs ++ [x]) t = heads xs t ++ [t + xs.sum + x]
  | [], t, x => by simp [heads]
  | y :: ys, t, x => by
    show (t + y) :: heads (ys ++ [x]) (t + y) = (t + y) :: (heads ys (t + y) ++ [t + (y :: ys).sum + x])
    rw [heads_snoc ys (t + y) x, List.sum_cons, show t + (y + ys.sum) + x = t + y + ys.sum + x by omega]
theorem heads_len : ∀ (xs : List Int) (t : Int), (heads xs t).length = xs.length
  | [], t => rfl
  | y :: ys, t => by
    show (heads ys (t + y)).length + 1 = ys.length + 1
    rw [heads_len ys]
theorem heads_step {pre : List Int} {x : Int} {acc : List D} {t : Int} (h1 : acc = (heads pre 0).map D.int) (h2 : t = pre.sum) : acc ++ [D.int (t + x)] = (heads (pre ++ [x]) 0).map D.int ∧ t + x = (pre ++ [x]).sum := by
  refine ⟨?_, by rw [List.sum_append, h2]; simp⟩
  rw [heads_snoc, List.map_append, h1, h2, Int.zero_add]
  rfl
theorem pure_prefixes (ds : List D) (Q : D → Prop) (Ex : Xc → Prop) (h : F_prefixes ds Q Ex) : w_prefixes (dEnds Q Ex) (startE N_prefixes ds) := by
  obtain ⟨ns, rfl, hl, q⟩ := h
  refine ⟨by decide, ?_⟩
  refine ⟨_, ns, rfl, rfl, ?_⟩
  refine forW_ind (fun rest env => ∃ (pre post : List Int) (s : Option Sl) (acc : List D) (t : Int), dn ns = pre ++ post ∧ rest = post.map D.int ∧ acc = (heads pre 0).map D.int ∧ t = pre.sum ∧ env = [some (.d (Ti ns)), s, some (.own acc), some (.d (.int t))]) ?_ ?_ _ _ ⟨[], dn ns, none, [], 0, rfl, rfl, rfl, rfl, rfl⟩
  · rintro x rest env ⟨pre, post, s, acc, t, e, er, ea, et, rfl⟩ ih
    cases post with
    | nil => cases er
    | cons y post =>
      cases er
      have hlen : acc.length < 1000000 := by
        have h1 := dn_len ns
        rw [e, List.length_append] at h1
        rw [ea, List.length_map, heads_len]
        omega
      obtain ⟨z1, z2⟩ := heads_step (x := y) ea et
      exact ⟨hlen, ih _ ⟨pre ++ [y], post, _, _, _, by rw [e, List.append_assoc]; rfl, rfl, z1, z2, rfl⟩⟩
  · rintro env ⟨pre, post, s, acc, t, e, er, ea, et, rfl⟩
    have : post = [] := by simpa using er.symm
    subst this
    rw [List.append_nil] at e
    subst e
    subst ea
    exact q
theorem len_prefixes (ds : List D) (Q : D → Prop) (Ex : Xc → Prop) (h : F_prefixes ds Q Ex) : ds.length = 1 := by
  obtain ⟨x, rfl, _⟩ := h
  rfl
theorem rev_up (ns : List Int) : (up ns).reverse = dn ns := by
  refine List.Perm.eq_of_pairwise (le := fun a b : Int => b ≤ a) (fun a b _ _ h1 h2 => Int.le_antisymm h2 h1) ?_ (dn_sorted ns) ((List.reverse_perm _).trans ((up_perm ns).trans (dn_perm ns).symm))
  rw [List.pairwise_reverse]
  exact up_sorted ns
theorem pure_L_down (ds : List D) (Q : D → Prop) (Ex : Xc → Prop) (h : F_L_down ds Q Ex) : w_L_down (dEnds Q Ex) (startE N_L_down ds) := by
  obtain ⟨x, ns, rfl, hx, hl, q⟩ := h
  refine ⟨_, hx, srt_ints ns, ?_⟩
  rw [ms_up]
  show Q (.tup ((up ns).map D.int).reverse)
  rw [← List.map_reverse, rev_up]
  exact q
theorem len_L_down (ds : List D) (Q : D → Prop) (Ex : Xc → Prop) (h : F_L_down ds Q Ex) : ds.length = 1 := by
  obtain ⟨x, ns, rfl, _⟩ := h
  rfl
theorem pure_L_heads (ds : List D) (Q : D → Prop) (Ex : Xc → Prop) (h : F_L_heads ds Q Ex) : w_L_heads (dEnds Q Ex) (startE N_L_heads ds) := by
  obtain ⟨x0, ns, rfl, hx, hl, q⟩ := h
  refine ⟨by decide, ?_⟩
  refine ⟨x0, ns, rfl, hx, hl, ?_⟩
  refine forW_ind (fun rest env => ∃ (pre post : List Int) (s : Option Sl) (acc : List D) (t : Int), dn ns = pre ++ post ∧ rest = post.map D.int ∧ acc = (heads pre 0).map D.int ∧ t = pre.sum ∧ env = [some (.d x0), s, some (.own acc), some (.d (.int t))]) ?_ ?_ _ _ ⟨[], dn ns, none, [], 0, rfl, rfl, rfl, rfl, rfl⟩
  · rintro x rest env ⟨pre, post, s, acc, t, e, er, ea, et, rfl⟩ ih
    cases post with
    | nil => cases er
    | cons y post =>
      cases er
      have hlen : acc.length < 1000000 := by
        have h1 := dn_len ns
        rw [e, List.length_append] at h1
        rw [ea, List.length_map, heads_len]
        omega
      obtain ⟨z1, z2⟩ := heads_step (x := y) ea et
      exact ⟨hlen, ih _ ⟨pre ++ [y], post, _, _, _, by rw [e, List.append_assoc]; rfl, rfl, z1, z2, rfl⟩⟩
  · rintro env ⟨pre, post, s, acc, t, e, er, ea, et, rfl⟩
    have : post = [] := by simpa using er.symm
    subst this
    rw [List.append_nil] at e
    subst e
    subst ea
    exact q
theorem len_L_heads (ds : List D) (Q : D → Prop) (Ex : Xc → Prop) (h : F_L_heads ds Q Ex) : ds.length = 1 := by
  obtain ⟨x, ns, rfl, _⟩ := h
  rfl
end Ph

namespace Ph
open PySem PySem.Spec PyProof.Rows L2 LamX Pd
theorem upTo0 (j : Int) : Pd.upTo 0 j = (List.range j.toNat).map fun (i : Nat) => D.int (i : Int) := by
  unfold Pd.upTo
  rw [Int.sub_zero]
  refine List.map_congr_left fun k _ => ?_
  rw [Int.zero_add]
theorem comp_drawn {v : Nat} {e : W D} {Q : List D → PEnv → Prop} (P : Int → Prop) (E : Option Sl → PEnv) (hE : ∀ s x, (wipeE (E s) [v]).set v (some (.d x)) = E (some (.d x)))
    (he : ∀ (x : D) (K : D → PEnv → Prop) ex, (∀ n, P n → K (.int n) (E (some (.d x)))) → e (E (some (.d x))) K ex) : ∀ (xs : List D) (s0 : Option Sl) (acc : List Int), (∀ n ∈ acc, P n) →
    (∀ (ns : List Int) s, ns.length = acc.length + xs.length → (∀ n ∈ ns, P n) → Q (ns.map D.int) (E s)) → compW (gNm v) (W.ret true) e [v] Q xs (E s0) (acc.map D.int)
  | [], s0, acc, ha, hQ => hQ acc s0 rfl ha
  | x :: xs, s0, acc, ha, hQ => by
    show br true _ _
    refine br_tt rfl ?_
    rw [show ((wipeE (E s0) [v]).set v (some (.d x))) = _ from hE s0 x]
    refine he x _ _ fun n hn => ?_
    have := comp_drawn P E hE he xs (some (.d x)) (acc ++ [n]) (fun m hm => by
      rcases List.mem_append.mp hm with h | h
      · exact ha m h
      · rw [List.mem_singleton.mp h]
        exact hn) fun ns s hl hn' => hQ ns s (by rw [hl, List.length_append, List.length_cons]; simp; omega) hn'
    rw [List.map_append] at this
    exact this
theorem pure_L_great (ds : List D) (Q : D → Prop) (Ex : Xc → Prop) (h : F_L_great ds Q Ex) : w_L_great (dEnds Q Ex) (startE N_L_great ds) := by
  obtain ⟨p, rfl, q⟩ := h
  refine ⟨by decide, by decide, ?_⟩
  refine comp_drawn (fun n => 0 ≤ n ∧ n < 10 ^ 10) (fun s => [some (.d (.box p)), none, none, s]) (fun _ _ => rfl) (fun x K ex hk => ⟨by decide, ⟨p, _, rfl, by decide, by decide, fun r h0 h1 => hk r ⟨h0, h1⟩⟩⟩) _ none [] (fun n hn => by cases hn) fun ns s hl hn => ?_
  have hl3 : ns.length = 3 := by
    rw [hl, upTo_length]
    rfl
  obtain ⟨a, b, c, rfl⟩ : ∃ a b c, ns = [a, b, c] := by
    match ns, hl3 with
    | [a, b, c], _ => exact ⟨a, b, c, rfl⟩
  refine ⟨by decide, by decide, by decide, by decide, ?_⟩
  refine ⟨.int a, rfl, by decide, .inl (.inl ?_), .int b, rfl, by decide, .inl (.inl ?_), .int c, rfl, ?_⟩
  · have := hn a (by simp)
    omega
  · have := hn b (by simp)
    omega
  refine ⟨p, _, _, rfl, rfl, by simp, by decide, fun y hy => ?_⟩
  have fin : ∀ m : Int, 0 < m → m ≤ 10 ^ 28 → ∃ _ : 0 < m, Q (.int ((a * 10 ^ Int.toNat 20 + b * 10 ^ Int.toNat 10 + c) % m)) := fun m h0 h1 => ⟨h0, q _ (Int.emod_nonneg _ (by omega)) (Int.lt_of_lt_of_le (Int.emod_lt_of_pos _ h0) h1)⟩
  have hy' : y = .int (10 ^ Int.toNat 28) ∨ y = .int 1000 ∨ y = .int (10 ^ Int.toNat 12) ∨ y = .int (10 ^ Int.toNat 28) := by simpa using hy
  rcases hy' with rfl | rfl | rfl | rfl
  · obtain ⟨z1, z2⟩ := fin (10 ^ Int.toNat 28) (by decide) (by decide); exact ⟨z1, z2⟩
  · obtain ⟨z1, z2⟩ := fin 1000 (by decide) (by decide); exact ⟨z1, z2⟩
  · obtain ⟨z1, z2⟩ := fin (10 ^ Int.toNat 12) (by decide) (by decide); exact ⟨z1, z2⟩
  · obtain ⟨z1, z2⟩ := fin (10 ^ Int.toNat 28) (by decide) (by decide); exact ⟨z1, z2⟩
theorem len_L_great (ds : List D) (Q : D → Prop) (Ex : Xc → Prop) (h : F_L_great ds Q Ex) : ds.length = 1 := by
  obtain ⟨x, rfl, _⟩ := h
  rfl
theorem pure_L_odd_row (ds : List D) (Q : D → Prop) (Ex : Xc → Prop) (h : F_L_odd_row ds Q Ex) : w_L_odd_row (dEnds Q Ex) (startE N_L_odd_row ds) := by
  obtain ⟨p, rfl, q⟩ := h
  repeat (refine ⟨by first | decide | exact Nat.le_of_ble_eq_true rfl, ?_⟩)
  exact ⟨p, _, oddL, rfl, rfl, (fun z => by cases z), Nat.le_of_ble_eq_true rfl, q⟩
theorem len_L_odd_row (ds : List D) (Q : D → Prop) (Ex : Xc → Prop) (h : F_L_odd_row ds Q Ex) : ds.length = 1 := by
  obtain ⟨x, rfl, _⟩ := h
  rfl
def gaps : List Int → List Int
  | a :: b :: r => (b - a) :: gaps (b :: r)
  | _ => []
theorem gaps_len : ∀ l : List Int, (gaps l).length = l.length - 1
  | [] => rfl
  | [_] => rfl
  | a :: b :: r => by
    show (gaps (b :: r)).length + 1 = _
    rw [gaps_len (b :: r)]
    simp
theorem gaps_sum : ∀ (a : Int) (l : List Int), (gaps (a :: l)).sum = (a :: l).getLast (by simp) - a
  | a, [] => by simp [gaps]
  | a, b :: r => by
    show ((b - a) :: gaps (b :: r)).sum = _
    rw [List.sum_cons, gaps_sum b r, List.getLast_cons (List.cons_ne_nil b r)]
    omega
theorem gaps_nonneg : ∀ l : List Int, l.Pairwise (fun a b => a ≤ b) → ∀ n ∈ gaps l, 0 ≤ n
  | [], _, n, hn => by cases hn
  | [_], _, n, hn => by cases hn
  | a :: b :: r, h, n, hn => by
    rcases List.mem_cons.mp (show n ∈ (b - a) :: gaps (b :: r) from hn) with rfl | hn
    · have := List.rel_of_pairwise_cons h (List.mem_cons_self : b ∈ b :: r)
      omega
    · exact gaps_nonneg (b :: r) (List.Pairwise.of_cons h) n hn
theorem zip_gaps : ∀ l : List Int, zipD (l.map D.int) ((l.drop 1).map D.int) = ((l.zip (l.drop 1)).map fun q => D.tup [.int q.1, .int q.2]) := fun l => by
  unfold zipD
  rw [List.zip_map, List.map_map]
  rfl
theorem gaps_zip : ∀ l : List Int, (l.zip (l.drop 1)).map (fun q => q.2 - q.1) = gaps l
  | [] => rfl
  | [_] => rfl
  | a :: b :: r => by
    have := gaps_zip (b :: r)
    show (b - a) :: _ = (b - a) :: _
    rw [← this]
    rfl
theorem pure_L_dealt (ds : List D) (Q : D → Prop) (Ex : Xc → Prop) (h : F_L_dealt ds Q Ex) : w_L_dealt (dEnds Q Ex) (startE N_L_dealt ds) := by
  obtain ⟨p, t, l, rfl, t0, t1, l0, l1, q⟩ := h
  refine ⟨by decide, ?_⟩
  refine ⟨by omega, by omega, ?_⟩
  refine forW_ind (fun rest env => ∃ (cs : List Int) (s s2 : Option Sl), (cs.length + rest.length : Int) = l - 1 ∧ (∀ c ∈ cs, 0 ≤ c ∧ c ≤ t) ∧ env = [some (.d (.box p)), some (.d (.int t)), some (.d (.int l)), some (.own (cs.map D.int)), s, none, s2, none, none]) ?_ ?_ _ _ ⟨[], none, none, ?_, (fun c hc => nomatch hc), rfl⟩
  · rintro x rest env ⟨cs, s, s2, hl, hc, rfl⟩ ih
    refine ⟨p, _, rfl, by decide, by decide, fun r1 a1 b1 => ?_⟩
    refine ⟨.inl (.inr (by omega)), ⟨by decide, by decide⟩, ?_⟩
    refine ⟨p, _, rfl, by decide, by decide, fun r2 a2 b2 => ?_⟩
    have hl2 : (cs.map D.int).length < 1000000 := by
      rw [List.length_map]
      have : (rest.length : Int) ≥ 0 := Int.natCast_nonneg _
      rw [List.length_cons] at hl
      omega
    refine ⟨hl2, ih _ ⟨cs ++ [if (if t * r1 / 1000 + r2 - 2 > 0 then t * r1 / 1000 + r2 - 2 else 0) < t then (if t * r1 / 1000 + r2 - 2 > 0 then t * r1 / 1000 + r2 - 2 else 0) else t], some (.d x), some (.d (.int r1)), ?_, fun c hc' => ?_, ?_⟩⟩
    · rw [List.length_append, List.length_singleton]
      rw [List.length_cons] at hl
      omega
    · rcases List.mem_append.mp hc' with h | h
      · exact hc c h
      · rw [List.mem_singleton.mp h]
        split <;> split at * <;> omega
    · rw [List.map_append]
      rfl
  · rintro env ⟨cs, s, s2, hl, hc, rfl⟩
    have hlc : (cs.length : Int) = l - 1 := by simpa using hl
    refine ⟨by decide, _, rfl, srt_ints cs, ?_⟩
    rw [ms_up]
    have hul : (up cs).length = cs.length := (up_perm cs).length_eq
    refine ⟨?_, Nat.le_of_ble_eq_true rfl, ?_, ?_⟩
    · rw [List.length_map, hul]
      show 1 + cs.length ≤ 1000000
      omega
    · rw [List.length_append, List.length_map, hul]
      show 1 + cs.length + 1 ≤ 1000000
      omega
    have eL : ([D.int 0] ++ (up cs).map D.int) ++ [D.int t] = (0 :: (up cs ++ [t])).map D.int := by
      rw [List.map_cons, List.map_append]
      rfl
    show compW (gTupP (gsCons (gNm 7) (gsCons (gNm 8) gsNil)) 2) (W.ret true) (wBin dSub (wVar 8) (wVar 7)) [7, 8] _ (zipD (([D.int 0] ++ (up cs).map D.int) ++ [D.int t]) (Pd.cutD (([D.int 0] ++ (up cs).map D.int) ++ [D.int t]) (some ((1 : Nat) : Int)) none)) _ []
    rw [eL, cut_from, ← List.map_drop, zip_gaps]
    refine comp_pair (v := 7) (u := 8) (t := W.ret true) (e := wBin dSub (wVar 8) (wVar 7)) (fun s7 s8 => [some (.d (.box p)), some (.d (.int t)), some (.d (.int l)), some (.own (cs.map D.int)), s, some (.d (.lst ((0 :: (up cs ++ [t])).map D.int))), s2, s7, s8]) (fun q : Int × Int => .int q.1) (fun q => .int q.2) (fun q => .int (q.2 - q.1)) (fun _ => true) _ none none [] (fun _ _ _ _ => rfl) (fun a ha K ex k => k) (fun a ha _ K ex k => k) fun s7 s8 => ?_
    rw [List.filter_eq_self.mpr fun _ _ => rfl, List.nil_append]
    have e2 : ((0 :: (up cs ++ [t])).zip ((0 :: (up cs ++ [t])).drop 1)).map (fun q => D.int (q.2 - q.1)) = (gaps (0 :: (up cs ++ [t]))).map D.int := by
      rw [← gaps_zip, List.map_map]
      rfl
    rw [e2]
    refine q _ ?_ (gaps_nonneg _ ?_) ?_
    · rw [gaps_len]
      simp [hul]
      omega
    · refine List.pairwise_cons.mpr ⟨fun b hb => ?_, List.pairwise_append.mpr ⟨up_sorted cs, List.pairwise_singleton _ _, fun a ha b hb => ?_⟩⟩
      · rcases List.mem_append.mp hb with h | h
        · exact (hc b ((up_perm cs).mem_iff.mp h)).1
        · rw [List.mem_singleton.mp h]
          exact t0
      · rw [List.mem_singleton.mp hb]
        exact (hc a ((up_perm cs).mem_iff.mp ha)).2
    · rw [gaps_sum, List.getLast_cons (by simp), List.getLast_append_of_ne_nil _ (by simp)]
      simp
  · rw [upTo_length]
    simp
    omega
theorem len_L_dealt (ds : List D) (Q : D → Prop) (Ex : Xc → Prop) (h : F_L_dealt ds Q Ex) : ds.length = 3 := by
  obtain ⟨p, t, l, rfl, _⟩ := h
  rfl
theorem mem_le_sum : ∀ {ns : List Int}, (∀ n ∈ ns, 0 ≤ n) → ∀ n ∈ ns, n ≤ ns.sum
  | [], _, n, hn => by cases hn
  | a :: r, h, n, hn => by
    have h1 : 0 ≤ r.sum := by
      have key : ∀ {l : List Int}, (∀ n ∈ l, 0 ≤ n) → 0 ≤ l.sum := fun {l} => by
        induction l with
        | nil => intro _; simp
        | cons b l ih =>
          intro h
          have := ih fun n hn => h n (List.mem_cons_of_mem _ hn)
          have := h b List.mem_cons_self
          rw [List.sum_cons]
          omega
      exact key fun n hn => h n (List.mem_cons_of_mem _ hn)
    rw [List.sum_cons]
    rcases List.mem_cons.mp hn with rfl | hn
    · omega
    · have := mem_le_sum (fun n hn => h n (List.mem_cons_of_mem _ hn)) n hn
      have := h a List.mem_cons_self
      omega
theorem pure_L_drawn_row (ds : List D) (Q : D → Prop) (Ex : Xc → Prop) (h : F_L_drawn_row ds Q Ex) : w_L_drawn_row (dEnds Q Ex) (startE N_L_drawn_row ds) := by
  obtain ⟨p, m, rfl, m0, m1, q⟩ := h
  refine ⟨p, _, rfl, m0, by omega, fun r1 a1 b1 => ⟨p, _, rfl, by decide, by decide, fun r2 a2 b2 => ?_⟩⟩
  have fin : ∀ (ns : List Int), ns.length = (Pd.upTo 0 (1 + r1)).length → (∀ n ∈ ns, 0 ≤ n ∧ n < 10 ^ 28) → Q (Ti ns) := fun ns hl hn => by
    have hl' : ns.length = (1 + r1).toNat := by rw [hl, upTo_length, Int.sub_zero]
    refine q ns (fun e => ?_) (by omega) hn
    rw [e] at hl'
    simp at hl'
    omega
  refine ⟨Nat.le_of_ble_eq_true rfl, rfl, ?_⟩
  refine ⟨by rfl, br_of (fun hz => ?_) (fun hz => ?_)⟩
  · refine ⟨by omega, by omega, ?_⟩
    refine comp_drawn (fun n => 0 ≤ n ∧ n < 10 ^ 28) (fun s => [some (.d (.box p)), some (.d (.int m)), some (.d (.int (1 + r1))), some (.d (.int r2)), s]) (fun _ _ => rfl) (fun x K ex hk => ⟨p, rfl, fun n h0 h1 => hk n ⟨h0, h1⟩⟩) _ none [] (fun n hn => nomatch hn) fun ns s hl hn => ?_
    exact fin ns (by simpa using hl) hn
  · refine ⟨by rfl, br_of (fun hz1 => ?_) (fun hz1 => ?_)⟩
    · refine ⟨p, rfl, fun t h0 h1 => ?_⟩
      refine ⟨p, t, _, rfl, h0, Int.lt_trans h1 (by decide), by omega, by omega, fun ns hl hn hs => ?_⟩
      refine fin ns (by rw [upTo_length]; omega) fun n hn' => ⟨hn n hn', ?_⟩
      have := mem_le_sum hn n hn'
      omega
    · have hz' : (r2 == 0) = false := hz
      have hz1' : (r2 == 1) = false := hz1
      have ez : r2 ≠ 0 := by simpa using hz'
      have ez1 : r2 ≠ 1 := by simpa using hz1'
      refine ⟨by omega, by omega, ?_⟩
      refine comp_drawn (fun n => 0 ≤ n ∧ n < 10 ^ 28) (fun s => [some (.d (.box p)), some (.d (.int m)), some (.d (.int (1 + r1))), some (.d (.int r2)), s]) (fun _ _ => rfl) (fun x K ex hk => ?_) _ none [] (fun n hn => nomatch hn) fun ns s hl hn => ?_
      · refine ⟨by decide, ?_⟩
        rcases (show r2 = 2 ∨ r2 = 3 by omega) with rfl | rfl
        · exact ⟨.int 4, rfl, p, _, rfl, by decide, by decide, fun r h0 h1 => hk r ⟨h0, by omega⟩⟩
        · exact ⟨.int 8, rfl, p, _, rfl, by decide, by decide, fun r h0 h1 => hk r ⟨h0, by omega⟩⟩
      · exact fin ns (by simpa using hl) hn
theorem len_L_drawn_row (ds : List D) (Q : D → Prop) (Ex : Xc → Prop) (h : F_L_drawn_row ds Q Ex) : ds.length = 2 := by
  obtain ⟨p, m, rfl, _⟩ := h
  rfl
end Ph

namespace Ph
open PySem PySem.Spec PyProof.Rows L2 LamX Pd
theorem pl_ints (n : Nat) (ns : List Int) : (ns.map D.int).all (plain (n + 1)) = true := by
  rw [List.all_map]
  exact List.all_eq_true.mpr fun x _ => rfl
theorem pl_Ti (n : Nat) (ns : List Int) : plain (n + 2) (Ti ns) = true := pl_ints n ns
theorem pl_Li (n : Nat) (ns : List Int) : plain (n + 2) (Li ns) = true := pl_ints n ns
def smallI (ns : List Int) : Prop := ns.length ≤ 100 ∧ ∀ x ∈ ns, x.natAbs < 10 ^ 120
theorem sho_ints (n : Nat) {ns : List Int} (h : ∀ x ∈ ns, x.natAbs < 10 ^ 120) : (ns.map D.int).all (sho (n + 1)) = true := by
  rw [List.all_map]
  exact List.all_eq_true.mpr fun x hx => decide_eq_true (h x hx)
theorem sho_Li (n : Nat) {ns : List Int} (h : smallI ns) : sho (n + 2) (Li ns) = true := sho_ints n h.2
theorem sho_int (n : Nat) {x : Int} (h : x.natAbs < 10 ^ 120) : sho (n + 1) (.int x) = true := decide_eq_true h
theorem perm_ints : ∀ {ys : List D} {ns : List Int}, ys.Perm (ns.map D.int) → ∃ ms : List Int, ys = ms.map D.int ∧ ms.Perm ns := fun {ys ns} h => by
  have key : ∀ y ∈ ys, ∃ i, y = D.int i := fun y hy => by
    obtain ⟨i, _, rfl⟩ := List.mem_map.mp (h.mem_iff.mp hy)
    exact ⟨i, rfl⟩
  have e : ∃ ms : List Int, ys = ms.map D.int := by
    clear h
    induction ys with
    | nil => exact ⟨[], rfl⟩
    | cons y ys ih =>
      obtain ⟨i, rfl⟩ := key y List.mem_cons_self
      obtain ⟨ms, rfl⟩ := ih fun z hz => key z (List.mem_cons_of_mem _ hz)
      exact ⟨i :: ms, rfl⟩
  obtain ⟨ms, rfl⟩ := e
  refine ⟨ms, rfl, ?_⟩
  have h2 := h.map (fun d : D => match d with | .int i => i | _ => 0)
  rw [List.map_map, List.map_map] at h2
  have e3 : ∀ l : List Int, l.map ((fun d : D => match d with | .int i => i | _ => 0) ∘ D.int) = l := fun l => by
    conv => rhs; rw [← List.map_id l]
    rfl
  rw [e3, e3] at h2
  exact h2
theorem dn_perm_eq {ms ns : List Int} (h : ms.Perm ns) : dn ms = dn ns :=
  List.Perm.eq_of_pairwise (le := fun a b : Int => b ≤ a) (fun a b _ _ h1 h2 => Int.le_antisymm h2 h1) (dn_sorted ms) (dn_sorted ns) ((dn_perm ms).trans (h.trans (dn_perm ns).symm))
theorem sum_perm {ms ns : List Int} (h : ms.Perm ns) : ms.sum = ns.sum := by
  induction h with
  | nil => rfl
  | cons x _ ih => rw [List.sum_cons, List.sum_cons, ih]
  | swap x y l =>
    rw [List.sum_cons, List.sum_cons, List.sum_cons, List.sum_cons]
    omega
  | trans _ _ h1 h2 => exact h1.trans h2
theorem exs_perm {ms ns : List Int} (h : ms.Perm ns) (m : Int) : exs ms m = exs ns m := sum_perm ((h.filter _).map _)
end Ph

namespace Ph
open PySem PySem.Spec PyProof.Rows L2 LamX Pd
def badO : Xc := ⟨"InvalidOperation", []⟩
def cmpI (a b : List Int) : Bool := decide (a.length = b.length) && decide (a.sum = b.sum)
abbrev hd (a : List Int) : List Int := heads (dn a) 0
def lessI (a b : List Int) : Bool := ((hd a).zip (hd b)).all fun q => decide (q.1 ≤ q.2)
def F_require_rows : Fn := fun ds Q Ex => ∃ x y, ds = [x, y] ∧ kds x ∧ kds y ∧ ((isRow x && isRow y) = true → Q .non) ∧ ((isRow x && isRow y) = false → Ex bad)
def F_is_comparable : Fn := fun ds Q _ => ∃ a b, ds = [Ti a, Ti b] ∧ Q (.bl (cmpI a b))
def two (x y : D) (Ex : Xc → Prop) (R : List Int → List Int → Prop) : Prop := kds x ∧ kds y ∧ ((isRow x && isRow y) = false → Ex bad) ∧ ∀ a b, x = Ti a → y = Ti b → rowI a → rowI b → R a b
end Ph

namespace Ph
open PySem PySem.Spec PyProof.Rows L2 LamX Pd
def N_require_rows : List Str := ["one", "other"]
def w_require_rows : WS := (sSeq (sDrop (wCall F_require_row (wCons (wVar 0) wNil))) (sDrop (wCall F_require_row (wCons (wVar 1) wNil))))
def N_is_comparable : List Str := ["one", "other"]
def w_is_comparable : WS := (sRet (wAnd (xBin fEq (w1 dLen (wVar 0)) (w1 dLen (wVar 1))) (xBin fEq (x1 fSum (wVar 0)) (x1 fSum (wVar 1)))))
end Ph

namespace Ph
open PySem PySem.Spec PyProof.Rows L2 LamX Pd
theorem heads_get : ∀ (d : List Int) (t : Int) (k : Nat), k < d.length → (heads d t)[k]? = some (t + (d.take (k + 1)).sum)
  | [], t, k, h => by simp at h
  | x :: d, t, 0, h => by simp [heads]
  | x :: d, t, k + 1, h => by
    have := heads_get d (t + x) k (by simpa using h)
    rw [List.take_succ_cons, List.sum_cons, ← Int.add_assoc]
    simpa [heads] using this
theorem desc_get {d : List Int} (h : d.Pairwise fun a b => b ≤ a) {j k : Nat} {x y : Int} (hj : d[j]? = some x) (hk : d[k]? = some y) (hjk : j ≤ k) : y ≤ x := by
  obtain ⟨lj, rfl⟩ := List.getElem?_eq_some_iff.mp hj
  obtain ⟨lk, rfl⟩ := List.getElem?_eq_some_iff.mp hk
  by_cases e : j = k
  · subst e
    exact Int.le_refl _
  · exact (List.pairwise_iff_getElem.mp h) j k lj lk (by omega)
end Ph

namespace Ph
open PySem PySem.Spec PyProof.Rows L2 LamX Pd
theorem two_in {x y : D} {Ex : Xc → Prop} {R : List Int → List Int → Prop} (h : two x y Ex R) {P : Prop} (q : ∀ a b, x = Ti a → y = Ti b → rowI a → rowI b → R a b → P) : kds x ∧ kds y ∧ ((isRow x && isRow y) = true → P) ∧ ((isRow x && isRow y) = false → Ex bad) := by
  obtain ⟨kx, ky, e, r⟩ := h
  refine ⟨kx, ky, fun z => ?_, e⟩
  rw [Bool.and_eq_true] at z
  obtain ⟨a, ea, ha⟩ := isRow_true z.1
  obtain ⟨b, eb, hb⟩ := isRow_true z.2
  exact q a b ea eb ha hb (r a b ea eb ha hb)
theorem pure_require_rows (ds : List D) (Q : D → Prop) (Ex : Xc → Prop) (h : F_require_rows ds Q Ex) : w_require_rows (dEnds Q Ex) (startE N_require_rows ds) := by
  obtain ⟨x, y, rfl, kx, ky, q, e⟩ := h
  exact ⟨x, rfl, kx, fun hx => ⟨y, rfl, ky, fun hy => q (by rw [hx, hy]; rfl), fun hy => e (by rw [hx, hy]; rfl)⟩, fun hx => e (by rw [hx]; rfl)⟩
theorem len_require_rows (ds : List D) (Q : D → Prop) (Ex : Xc → Prop) (h : F_require_rows ds Q Ex) : ds.length = 2 := by
  obtain ⟨x, y, rfl, _⟩ := h
  rfl
theorem eqb_int (a b : Int) : eqb (.int a) (.int b) = decide (a = b) := rfl
theorem lenC {a b : List Int} : decide (((a.map D.int).length : Int) = ((b.map D.int).length : Int)) = decide (a.length = b.length) := by
  rw [List.length_map, List.length_map]
  exact decide_eq_decide.mpr (by omega)
theorem pure_is_comparable (ds : List D) (Q : D → Prop) (Ex : Xc → Prop) (h : F_is_comparable ds Q Ex) : w_is_comparable (dEnds Q Ex) (startE N_is_comparable ds) := by
  obtain ⟨a, b, rfl, q⟩ := h
  refine ⟨rfl, ?_⟩
  rw [eqb_int, lenC]
  unfold cmpI at q
  refine br_of (fun h => ?_) (fun h => ?_)
  · refine ⟨a, rfl, b, rfl, rfl, ?_⟩
    rw [h, Bool.true_and] at q
    exact q
  · rw [h, Bool.false_and] at q
    exact q
theorem len_is_comparable (ds : List D) (Q : D → Prop) (Ex : Xc → Prop) (h : F_is_comparable ds Q Ex) : ds.length = 2 := by
  obtain ⟨x, y, rfl, _⟩ := h
  rfl
theorem zip_ints (a b : List Int) : zipD (a.map D.int) (b.map D.int) = (a.zip b).map fun q => D.tup [.int q.1, .int q.2] := by
  unfold zipD
  rw [List.zip_map, List.map_map]
  rfl
theorem comp_zip {a b : List Int} {v u : Nat} {e : W D} {Q : List D → PEnv → Prop} (E : Option Sl → Option Sl → PEnv) (h : Int → Int → D) (s0 s1 : Option Sl) (hE : ∀ s z x y, ((wipeE (E s z) [v, u]).set v (some (.d x))).set u (some (.d y)) = E (some (.d x)) (some (.d y)))
    (he : ∀ x y : Int, ∀ (K : D → PEnv → Prop) ex, K (h x y) (E (some (.d (.int x))) (some (.d (.int y)))) → e (E (some (.d (.int x))) (some (.d (.int y)))) K ex)
    (hQ : ∀ s z, Q ((a.zip b).map fun q => h q.1 q.2) (E s z)) : compW (gTupP (gsCons (gNm v) (gsCons (gNm u) gsNil)) 2) (W.ret true) e [v, u] Q (zipD (a.map D.int) (b.map D.int)) (E s0 s1) [] := by
  rw [zip_ints]
  refine comp_pair (t := W.ret true) E (fun q => .int q.1) (fun q => .int q.2) (fun q => h q.1 q.2) (fun _ => true) (a.zip b) s0 s1 [] hE (fun q _ K ex k => k) (fun q _ _ => he q.1 q.2) fun s z => ?_
  rw [List.filter_eq_self.mpr fun _ _ => rfl]
  exact hQ s z
end Ph

namespace Ph
open PySem PySem.Spec PyProof.Rows L2 LamX Pd
theorem cut_but_last {α : Type} (xs : List α) : Pd.cutD xs none (some (-1)) = xs.dropLast := by
  unfold Pd.cutD
  rw [HT.sIx_none, Nat.sub_zero, List.drop_zero, List.dropLast_eq_take]
  congr 1
  unfold HT.sIx
  simp
  omega
theorem idx_last {α : Type} {xs : List α} (h : xs ≠ []) : atI xs (-1) = xs.getLast? := by
  have hl : 0 < xs.length := List.length_pos_iff.mpr h
  unfold atI ixN
  rw [if_neg (by decide), if_pos (by omega), List.getLast?_eq_getElem?]
  show xs[_]? = _
  congr 1
  omega
end Ph

namespace Ph
open PySem PySem.Spec PyProof.Rows L2 LamX Pd
end Ph

namespace Ph
open PySem PySem.Spec PyProof.Rows L2 LamX Pd
theorem exs_max : ∀ (a : List Int) (s : Int), exs a s = (a.map fun x => max (x - s) 0).sum
  | [], s => rfl
  | x :: a, s => by
    have ih := exs_max a s
    unfold exs at ih ⊢
    rw [List.map_cons, List.sum_cons, ← ih]
    by_cases h : s < x
    · rw [List.filter_cons_of_pos (by simpa using h), List.map_cons, List.sum_cons, Int.max_eq_left (by omega)]
    · rw [List.filter_cons_of_neg (by simpa using h), Int.max_eq_right (by omega), Int.zero_add]
theorem exs_cons (x : Int) (a : List Int) (s : Int) : exs (x :: a) s = max (x - s) 0 + exs a s := by rw [exs_max, exs_max, List.map_cons, List.sum_cons]
theorem exs_append (a b : List Int) (s : Int) : exs (a ++ b) s = exs a s + exs b s := by rw [exs_max, exs_max, exs_max, List.map_append, List.sum_append]
theorem exs_nonneg : ∀ (a : List Int) (s : Int), 0 ≤ exs a s
  | [], s => Int.le_refl _
  | x :: a, s => by
    have := exs_nonneg a s
    rw [exs_cons]
    omega
theorem sum_le_exs : ∀ (a : List Int) (s : Int), a.sum ≤ a.length * s + exs a s
  | [], s => by simp [exs]
  | x :: a, s => by
    have := sum_le_exs a s
    rw [exs_cons, List.sum_cons, List.length_cons, Int.natCast_add, Int.add_mul]
    simp
    omega
theorem sum_eq_exs : ∀ (a : List Int) (s : Int), (∀ x ∈ a, s ≤ x) → a.sum = a.length * s + exs a s
  | [], s, _ => by simp [exs]
  | x :: a, s, h => by
    have := sum_eq_exs a s fun y hy => h y (List.mem_cons_of_mem _ hy)
    have hx := h x List.mem_cons_self
    rw [exs_cons, List.sum_cons, List.length_cons, Int.natCast_add, Int.add_mul]
    simp
    omega
theorem exs_zero : ∀ (a : List Int) (s : Int), (∀ x ∈ a, x ≤ s) → exs a s = 0
  | [], s, _ => rfl
  | x :: a, s, h => by
    have := exs_zero a s fun y hy => h y (List.mem_cons_of_mem _ hy)
    have hx := h x List.mem_cons_self
    rw [exs_cons, this]
    omega
theorem take_le_exs (a : List Int) {k : Nat} (hk : k ≤ a.length) (s : Int) : ((dn a).take k).sum ≤ k * s + exs a s := by
  have h1 := sum_le_exs ((dn a).take k) s
  have h2 : exs a s = exs ((dn a).take k) s + exs ((dn a).drop k) s := by rw [← exs_append, List.take_append_drop, exs_perm (dn_perm a)]
  have h3 := exs_nonneg ((dn a).drop k) s
  rw [List.length_take, dn_len, Nat.min_eq_left hk] at h1
  omega
theorem take_eq_exs {a : List Int} {k : Nat} {s : Int} (h : (dn a)[k]? = some s) : ((dn a).take (k + 1)).sum = (k + 1 : Nat) * s + exs a s := by
  have hk : k < (dn a).length := (List.getElem?_eq_some_iff.mp h).1
  have h1 := sum_eq_exs ((dn a).take (k + 1)) s fun x hx => by
    obtain ⟨j, hj⟩ := List.mem_iff_getElem?.mp hx
    rw [List.getElem?_take] at hj
    split at hj
    · exact desc_get (dn_sorted a) hj h (by omega)
    · cases hj
  have h2 : exs a s = exs ((dn a).take (k + 1)) s + exs ((dn a).drop (k + 1)) s := by rw [← exs_append, List.take_append_drop, exs_perm (dn_perm a)]
  have h3 := exs_zero ((dn a).drop (k + 1)) s fun x hx => by
    obtain ⟨j, hj⟩ := List.mem_iff_getElem?.mp hx
    rw [List.getElem?_drop] at hj
    exact desc_get (dn_sorted a) h hj (by omega)
  rw [List.length_take, Nat.min_eq_left (show k + 1 ≤ (dn a).length from hk)] at h1
  omega
theorem hd_get {a : List Int} {k : Nat} (hk : k < a.length) : (hd a)[k]? = some ((dn a).take (k + 1)).sum := by
  have := heads_get (dn a) 0 k (by rw [dn_len]; exact hk)
  rw [Int.zero_add] at this
  exact this
theorem hd_len (a : List Int) : (hd a).length = a.length := by rw [heads_len, dn_len]
theorem lessI_exs {a b : List Int} (hl : a.length = b.length) : lessI a b = true ↔ ∀ s, exs a s ≤ exs b s := by
  unfold lessI
  rw [List.all_eq_true]
  constructor
  · intro h s
    -- how many entries of a are above s
    apply Decidable.byContradiction
    intro hn
    have key : ∃ k, k ≤ a.length ∧ ((dn a).take k).sum = k * s + exs a s := by
      have hd1 : ∀ (l : List Int), l.Pairwise (fun a b => b ≤ a) → ∃ k, k ≤ l.length ∧ (∀ x ∈ l.take k, s ≤ x) ∧ ∀ x ∈ l.drop k, x ≤ s := by
        intro l
        induction l with
        | nil => exact fun _ => ⟨0, by simp, by simp, by simp⟩
        | cons y l ih =>
          intro hp
          obtain ⟨k, h1, h2, h3⟩ := ih (List.pairwise_cons.mp hp).2
          by_cases hy : s ≤ y
          · exact ⟨k + 1, by simp; omega, fun x hx => by
              rcases List.mem_cons.mp (by simpa using hx) with rfl | hx
              · exact hy
              · exact h2 x hx, by simpa using h3⟩
          · refine ⟨0, by simp, by simp, fun x hx => ?_⟩
            rcases List.mem_cons.mp (by simpa using hx) with rfl | hx
            · omega
            · have := (List.pairwise_cons.mp hp).1 x hx
              omega
      obtain ⟨k, h1, h2, h3⟩ := hd1 (dn a) (dn_sorted a)
      rw [dn_len] at h1
      refine ⟨k, h1, ?_⟩
      have e1 := sum_eq_exs _ s h2
      have e2 : exs a s = exs ((dn a).take k) s + exs ((dn a).drop k) s := by rw [← exs_append, List.take_append_drop, exs_perm (dn_perm a)]
      have e3 := exs_zero _ s h3
      rw [List.length_take, dn_len, Nat.min_eq_left h1] at e1
      omega
    obtain ⟨k, hk, e⟩ := key
    have h2 := take_le_exs b (k := k) (by omega) s
    cases k with
    | zero =>
      simp at e
      have := exs_nonneg b s
      omega
    | succ k =>
      have m : (((dn a).take (k + 1)).sum, ((dn b).take (k + 1)).sum) ∈ (hd a).zip (hd b) := by
        refine List.mem_of_getElem? (i := k) (List.getElem?_zip_eq_some.mpr ⟨hd_get (by omega), hd_get (by omega)⟩)
      have := of_decide_eq_true (h _ m)
      dsimp only at this
      omega
  · intro h q hq
    obtain ⟨k, hk⟩ := List.mem_iff_getElem?.mp hq
    obtain ⟨h1, h2⟩ := List.getElem?_zip_eq_some.mp hk
    have hka : k < a.length := by
      have := (List.getElem?_eq_some_iff.mp h1).1
      rwa [hd_len] at this
    rw [hd_get hka] at h1
    rw [hd_get (by omega)] at h2
    have e1 := Option.some.inj h1
    have e2 := Option.some.inj h2
    have hkb : k < (dn b).length := by rw [dn_len]; omega
    have h3 := take_eq_exs (List.getElem?_eq_getElem hkb)
    have h4 := take_le_exs a (k := k + 1) (by omega) (dn b)[k]
    have h5 := h (dn b)[k]
    rw [← e1, ← e2]
    exact decide_eq_true (by omega)
end Ph

namespace Ph
open PySem PySem.Spec PyProof.Rows L2 LamX Pd
def barsF : Nat → List (Int × Int) → List Int
  | _, [] => []
  | n, q :: l => if q.2 < q.1 then ((n : Int) + 1) :: barsF (n + 1) l else barsF (n + 1) l
def barsI (a b : List Int) : List Int := barsF 0 ((hd a).zip (hd b))
def belowI (a b : List Int) : Bool := cmpI a b && lessI a b
def F_bars_of : Fn := fun ds Q _ => ∃ a b, ds = [Ti a, Ti b] ∧ a.length ≤ 1000 ∧ b.length ≤ 1000 ∧ Q (Li (barsI a b))
def F_is_below : Fn := fun ds Q _ => ∃ a b, ds = [Ti a, Ti b] ∧ a.length ≤ 1000 ∧ b.length ≤ 1000 ∧ Q (.bl (belowI a b))
end Ph

namespace Ph
open PySem PySem.Spec PyProof.Rows L2 LamX Pd
def N_bars_of : List Str := ["one", "other", "pairs", "index", "first", "second"]
def w_bars_of : WS := (sSeq (sSet 2 (wLst (wListZ (wZa (wCons (wCall F_prefixes (wCons (wVar 0) wNil)) (wCons (wCall F_prefixes (wCons (wVar 1) wNil)) wNil)))))) (sRet (wLst (wComp (wEnum (wVar 2)) (gTupP (gsCons (gNm 3) (gsCons (gTupP (gsCons (gNm 4) (gsCons (gNm 5) gsNil)) 2) gsNil)) 2) (wTest (wBin dGt (wVar 4) (wVar 5))) (xBin fAdd (wVar 3) (W.ret (.int 1))) [3, 4, 5]))))
def N_is_below : List Str := ["one", "other"]
def w_is_below : WS := (sRet (wAnd (wCall F_is_comparable (wCons (wVar 0) (wCons (wVar 1) wNil))) (xBin fEq (wCall F_bars_of (wCons (wVar 0) (wCons (wVar 1) wNil))) (wLst (wSz wNil)))))
end Ph

namespace Ph
open PySem PySem.Spec PyProof.Rows L2 LamX Pd
theorem barsF_nil : ∀ (n : Nat) (l : List (Int × Int)), (barsF n l).isEmpty = l.all fun q => decide (q.1 ≤ q.2)
  | _, [] => rfl
  | n, q :: l => by
    unfold barsF
    by_cases h : q.2 < q.1
    · rw [if_pos h, List.all_cons, decide_eq_false (by omega)]
      rfl
    · rw [if_neg h, barsF_nil (n + 1) l, List.all_cons, decide_eq_true (by omega), Bool.true_and]
theorem barsI_nil (a b : List Int) : (barsI a b).isEmpty = lessI a b := barsF_nil 0 _
theorem eqb_nil (ns : List Int) : eqb (Li ns) (.lst []) = ns.isEmpty := by
  cases ns <;> rfl
theorem pure_bars_of (ds : List D) (Q : D → Prop) (Ex : Xc → Prop) (h : F_bars_of ds Q Ex) : w_bars_of (dEnds Q Ex) (startE N_bars_of ds) := by
  obtain ⟨a, b, rfl, la, lb, q⟩ := h
  refine ⟨a, rfl, by omega, b, rfl, by omega, _, rfl, by simp, Nat.le_of_ble_eq_true rfl, ?_, ?_⟩
  · show min ((hd a).map D.int).length ((hd b).map D.int).length ≤ 1000000
    rw [List.length_map, hd_len]
    omega
  show compW _ _ _ _ _ (enD 0 (zipD ((hd a).map D.int) ((hd b).map D.int))) _ _
  rw [zip_ints]
  refine compW_ind (fun rest env acc => ∃ (n : Nat) (l : List (Int × Int)) (z s3 s4 s5 : Option Sl), rest = enD n (l.map fun q => D.tup [.int q.1, .int q.2]) ∧ env = [some (.d (Ti a)), some (.d (Ti b)), z, s3, s4, s5] ∧ ∃ pre : List Int, acc = pre.map D.int ∧ pre ++ barsF n l = barsI a b) ?_ ?_ _ _ _ ⟨0, _, _, none, none, none, rfl, rfl, [], rfl, rfl⟩
  · rintro x rest env acc ⟨n, l, z, s3, s4, s5, er, rfl, pre, rfl, hp⟩ ih
    cases l with
    | nil => cases er
    | cons p l =>
      cases er
      refine ⟨rfl, rfl, ?_⟩
      refine br_if (fun h => ?_) (fun h => ?_)
      · refine ih _ _ ⟨n + 1, l, z, _, _, _, rfl, rfl, pre ++ [(n : Int) + 1], by rw [List.map_append]; rfl, ?_⟩
        unfold barsF at hp
        rw [if_pos h] at hp
        rw [List.append_assoc]
        exact hp
      · refine ih _ _ ⟨n + 1, l, z, _, _, _, rfl, rfl, pre, rfl, ?_⟩
        unfold barsF at hp
        rw [if_neg h] at hp
        exact hp
  · rintro env acc ⟨n, l, z, s3, s4, s5, er, rfl, pre, rfl, hp⟩
    cases l with
    | nil =>
      unfold barsF at hp
      rw [List.append_nil] at hp
      rw [hp]
      exact q
    | cons p l => cases er
theorem len_bars_of (ds : List D) (Q : D → Prop) (Ex : Xc → Prop) (h : F_bars_of ds Q Ex) : ds.length = 2 := by
  obtain ⟨x, y, rfl, _⟩ := h
  rfl
theorem pure_is_below (ds : List D) (Q : D → Prop) (Ex : Xc → Prop) (h : F_is_below ds Q Ex) : w_is_below (dEnds Q Ex) (startE N_is_below ds) := by
  obtain ⟨a, b, rfl, la, lb, q⟩ := h
  refine ⟨a, b, rfl, ?_⟩
  unfold belowI at q
  refine br_of (fun h => ?_) (fun h => ?_)
  · refine ⟨a, b, rfl, la, lb, by decide, ?_, ?_⟩
    · rw [pl_Li 58]
      rfl
    · rw [eqb_nil, barsI_nil]
      rw [h, Bool.true_and] at q
      exact q
  · rw [h, Bool.false_and] at q
    exact q
theorem len_is_below (ds : List D) (Q : D → Prop) (Ex : Xc → Prop) (h : F_is_below ds Q Ex) : ds.length = 2 := by
  obtain ⟨x, y, rfl, _⟩ := h
  rfl
end Ph

namespace Ph
open PySem PySem.Spec PyProof.Rows L2 LamX Pd
theorem odd_no : ∀ x ∈ oddL, kds x ∧ isRow x = false := by
  intro x hx
  have key : (oddL.all fun x => (match x with
    | .tup xs => xs.all fun y => (dTy y).isSome
    | y => (dTy y).isSome) && !isRow x) = true := by decide +kernel
  have h := List.all_eq_true.mp key x hx
  rw [Bool.and_eq_true, Bool.not_eq_true'] at h
  refine ⟨?_, h.2⟩
  cases x with
  | tup xs => exact ⟨rfl, fun ys e y hy => by cases e; exact List.all_eq_true.mp h.1 y hy⟩
  | non => exact ⟨rfl, fun ys e => by cases e⟩
  | bl _ => exact ⟨rfl, fun ys e => by cases e⟩
  | int _ => exact ⟨rfl, fun ys e => by cases e⟩
  | str _ => exact ⟨rfl, fun ys e => by cases e⟩
  | lst _ => exact ⟨rfl, fun ys e => by cases e⟩
  | dic _ => exact ⟨rfl, fun ys e => by cases e⟩
  | _ => cases h.1
theorem two_bad {x y : D} {Ex : Xc → Prop} {R : List Int → List Int → Prop} (kx : kds x) (ky : kds y) (h : (isRow x && isRow y) = false) (e : Ex bad) : two x y Ex R :=
  ⟨kx, ky, fun _ => e, fun a b ea eb ra rb => by rw [ea, eb, isRow_Ti ra, isRow_Ti rb] at h; cases h⟩
theorem two_ok {a b : List Int} {Ex : Xc → Prop} {R : List Int → List Int → Prop} (ra : rowI a) (rb : rowI b) (r : R a b) : two (Ti a) (Ti b) Ex R :=
  ⟨kds_Ti a, kds_Ti b, (fun z => by rw [isRow_Ti ra, isRow_Ti rb] at z; cases z), fun a' b' ea eb _ _ => by rw [← Ti_inj ea, ← Ti_inj eb]; exact r⟩
theorem seq_app {i : Nat} {cls : List Str} {hs : List Hd} {w : W D} {b : WS} {pe : PEnds} {env : PEnv} {xs : List D} (h0 : gt env i = some (.own xs)) (hl : xs.length < 1000000)
    (h : w (dOnly env) (fun d _ => b pe (env.set i (some (.own (xs ++ [d]))))) (fun x => x.cls ∈ cls ∧ outH hs x fun d => b pe (env.set i (some (.own (xs ++ [d])))))) : sSeq (sDrop (wAppend i (wOut cls hs w))) b pe env := by
  have e : ∀ d : D, (ownIs env i fun ys => ys.length < 1000000 ∧ b pe (env.set i (some (.own (ys ++ [d]))))) = b pe (env.set i (some (.own (xs ++ [d])))) := fun d => by
    unfold ownIs
    rw [h0]
    exact propext ⟨fun z => z.2, fun z => ⟨hl, z⟩⟩
  unfold sSeq sDrop wAppend
  unfold ownIs
  rw [h0]
  unfold ownIs at e
  dsimp only [wOut]
  simp only [e]
  exact h
end Ph

namespace Ph
open PySem PySem.Spec PyProof.Rows L2 LamX Pd
def nrow (ns : List Int) : Prop := ns ≠ [] ∧ ns.length ≤ 60 ∧ (∀ n ∈ ns, 0 ≤ n) ∧ ns.sum < 10 ^ 29
def F_L_moved : Fn := fun ds Q _ => ∃ (row : List Int) (s g m x : Int), ds = [Ti row, .int s, .int g, .int m] ∧ row.length ≤ 1000 ∧ 0 ≤ s ∧ 0 ≤ g ∧ g < row.length ∧ row[s.toNat]? = some x ∧ Q (Ti ((row.set s.toNat (x - m)).set g.toNat ((row.set s.toNat (x - m))[g.toNat]?.getD 0 + m)))
def F_L_near_row : Fn := fun ds Q _ => ∃ p row, ds = [.box p, Ti row] ∧ nrow row ∧ ∀ r : List Int, r.length = row.length → r.sum = row.sum → (∀ n ∈ r, 0 ≤ n) → Q (Ti r)
def F_L_under : Fn := fun ds Q _ => ∃ a b, ds = [Ti a, Ti b] ∧ a.length ≤ 1000 ∧ b.length ≤ 1000 ∧ Q (.bl (belowI a b))
end Ph

namespace Ph
open PySem PySem.Spec PyProof.Rows L2 LamX Pd
def N_L_moved : List Str := ["_law_row", "_law_source", "_law_goal", "_law_many", "_law_found"]
def w_L_moved : WS := (sSeq (sSetOwn 4 (w1F dItems (wVar 0))) (sSeq (sSetIx 4 (wVar 1) (wBin dSub (wIxOwn 4 (wVar 1)) (wVar 3))) (sSeq (sSetIx 4 (wVar 2) (xBin fAdd (wIxOwn 4 (wVar 2)) (wVar 3))) (sRet (w1 dTuple (wOwn 4))))))
def N_L_near_row : List Str := ["_law_bowl_here", "_law_row", "_law_turn", "_law_way", "_law_found", "_law_many", "_law_source", "_law_goal"]
def w_L_near_row : WS := (sSeq (sParM2 3 4 (mE (wCall F_L_ladle (wCons (wVar 0) (wCons (W.ret (.int 5)) wNil))) (mE (wVar 1) mNil))) (sSeq (sIf (wTest (xBin fEq (wVar 3) (W.ret (.int 0)))) (sRet (wCall F_L_dealt (wCons (wVar 0) (wCons (x1 fSum (wVar 1)) (wCons (w1 dLen (wVar 1)) wNil))))) sNil) (sSeq (sFor (wRng1 (wCall F_L_pick (wCons (wVar 0) (wCons (wLst (wSz (wCons (W.ret (.int 1)) (wCons (W.ret (.int 1)) (wCons (W.ret (.int 2)) (wCons (W.ret (.int 3)) wNil)))))) wNil)))) (gNm 2) (sSeq (sParM2 6 7 (mE (wCall F_L_ladle (wCons (wVar 0) (wCons (w1 dLen (wVar 1)) wNil))) (mE (wCall F_L_ladle (wCons (wVar 0) (wCons (w1 dLen (wVar 1)) wNil))) mNil))) (sSeq (sSet 5 (wIf (wTest (xBin fEq (wVar 3) (W.ret (.int 1)))) (xBin fDiv (xBin fMul (xBin fIdx (wVar 4) (wVar 6)) (wCall F_L_ladle (wCons (wVar 0) (wCons (W.ret (.int 4)) wNil)))) (W.ret (.int 3))) (wN dMin2 (wCons (W.ret (.int 1)) (wCons (xBin fIdx (wVar 4) (wVar 6)) wNil))))) (sSet 4 (wCall F_L_moved (wCons (wVar 4) (wCons (wVar 6) (wCons (wVar 7) (wCons (wVar 5) wNil))))))))) (sRet (wIf (wTest (xBin fEq (wVar 3) (W.ret (.int 2)))) (w1 dTuple (wCall F_L_mixed (wCons (wVar 0) (wCons (wVar 4) wNil)))) (wVar 4))))))
def N_L_under : List Str := ["_law_one", "_law_other", "_law_first", "_law_second"]
def w_L_under : WS := (sSeq (sIf (tOrP (wTest (xBin fNe (w1 dLen (wVar 0)) (w1 dLen (wVar 1)))) (wTest (xBin fNe (x1 fSum (wVar 0)) (x1 fSum (wVar 1))))) (sRet (W.ret (.bl false))) sNil) (sRet (xBin fEq (wLst (wComp (wZip (wCall F_L_heads (wCons (wVar 0) wNil)) (wCall F_L_heads (wCons (wVar 1) wNil))) (gTupP (gsCons (gNm 2) (gsCons (gNm 3) gsNil)) 2) (wTest (wBin dGt (wVar 2) (wVar 3))) (W.ret (.int 1)) [2, 3])) (wLst (wSz wNil)))))
end Ph

namespace Ph
open PySem PySem.Spec PyProof.Rows L2 LamX Pd
theorem nrow_row {ns : List Int} (h : nrow ns) : rowI ns := ⟨h.1, by have := h.2.1; omega, fun n hn => by
  have h1 := h.2.2.1 n hn
  have h2 := mem_le_sum h.2.2.1 n hn
  exact ⟨h1, Int.le_trans (Int.le_of_lt (Int.lt_of_le_of_lt h2 h.2.2.2)) (by decide)⟩⟩
theorem sum_set : ∀ (l : List Int) (i : Nat) (x y : Int), l[i]? = some x → (l.set i y).sum = l.sum - x + y
  | [], i, x, y, h => by simp at h
  | a :: l, 0, x, y, h => by
    simp at h
    subst h
    rw [List.set_cons_zero, List.sum_cons, List.sum_cons]
    omega
  | a :: l, i + 1, x, y, h => by
    have := sum_set l i x y (by simpa using h)
    rw [List.set_cons_succ, List.sum_cons, List.sum_cons, this]
    omega
theorem set_ints (l : List Int) (i : Nat) (y : Int) : (l.map D.int).set i (.int y) = (l.set i y).map D.int := by rw [List.map_set]
theorem ixn {n : Nat} {s : Int} (h0 : 0 ≤ s) (h : s < n) : ixN n s = some s.toNat := by
  unfold ixN
  rw [if_pos h0, if_pos (by omega)]
theorem pure_L_moved (ds : List D) (Q : D → Prop) (Ex : Xc → Prop) (h : F_L_moved ds Q Ex) : w_L_moved (dEnds Q Ex) (startE N_L_moved ds) := by
  obtain ⟨row, s, g, m, x, rfl, hl, s0, g0, gl, hx, q⟩ := h
  have hs : s.toNat < row.length := (List.getElem?_eq_some_iff.mp hx).1
  have i1 : ∀ (l : List Int) (n : Int) (z : Int), 0 ≤ n → l[n.toNat]? = some z → dIdx (.lst (l.map D.int)) (.int n) = some (.int z) := fun l n z n0 e => idx_items rfl n0 (by rw [List.getElem?_map, e]; rfl)
  have hg2 : g.toNat < (row.set s.toNat (x - m)).length := by rw [List.length_set]; omega
  have hy := List.getElem?_eq_getElem hg2
  generalize (row.set s.toNat (x - m))[g.toNat] = y at hy
  rw [hy] at q
  have e1 : ((row.map D.int).set s.toNat (.int (x - m))) = (row.set s.toNat (x - m)).map D.int := set_ints _ _ _
  refine ⟨.int x, i1 row s x s0 hx, s.toNat, ixn s0 (by rw [List.length_map]; omega), ?_⟩
  rw [e1]
  refine ⟨.int y, i1 _ g y g0 hy, g.toNat, ixn g0 (by rw [List.length_map, List.length_set]; omega), ?_⟩
  rw [set_ints]
  exact q
theorem len_L_moved (ds : List D) (Q : D → Prop) (Ex : Xc → Prop) (h : F_L_moved ds Q Ex) : ds.length = 4 := by
  obtain ⟨row, s, g, m, x, rfl, _⟩ := h
  rfl
theorem moved_row {row : List Int} {s g m x : Int} (h0 : ∀ n ∈ row, 0 ≤ n) (s0 : 0 ≤ s) (g0 : 0 ≤ g) (gl : g < row.length) (hx : row[s.toNat]? = some x) (m0 : 0 ≤ m) (mx : m ≤ x) :
    ((row.set s.toNat (x - m)).set g.toNat ((row.set s.toNat (x - m))[g.toNat]?.getD 0 + m)).length = row.length ∧ ((row.set s.toNat (x - m)).set g.toNat ((row.set s.toNat (x - m))[g.toNat]?.getD 0 + m)).sum = row.sum ∧
    ∀ n ∈ (row.set s.toNat (x - m)).set g.toNat ((row.set s.toNat (x - m))[g.toNat]?.getD 0 + m), 0 ≤ n := by
  have hg2 : g.toNat < (row.set s.toNat (x - m)).length := by rw [List.length_set]; omega
  have hy := List.getElem?_eq_getElem hg2
  generalize (row.set s.toNat (x - m))[g.toNat] = y at hy
  rw [hy]
  have n1 : ∀ n ∈ row.set s.toNat (x - m), 0 ≤ n := fun n hn => by
    rcases List.mem_or_eq_of_mem_set hn with hn | rfl
    · exact h0 n hn
    · omega
  refine ⟨by rw [List.length_set, List.length_set], ?_, fun n hn => ?_⟩
  · rw [sum_set _ _ _ _ hy, sum_set _ _ _ _ hx]
    simp
    omega
  · rcases List.mem_or_eq_of_mem_set hn with hn | rfl
    · exact n1 n hn
    · have := n1 y (List.mem_of_getElem? hy)
      simp
      omega
theorem pure_L_near_row (ds : List D) (Q : D → Prop) (Ex : Xc → Prop) (h : F_L_near_row ds Q Ex) : w_L_near_row (dEnds Q Ex) (startE N_L_near_row ds) := by
  obtain ⟨p, row, rfl, hd, q⟩ := h
  have l0 : 0 < row.length := List.length_pos_iff.mpr hd.1
  have l6 := hd.2.1
  have ll : (row.map D.int).length = row.length := List.length_map ..
  have s0 : 0 ≤ row.sum := Int.le_trans (hd.2.2.1 _ (List.getElem_mem l0)) (mem_le_sum hd.2.2.1 _ (List.getElem_mem l0))
  refine ⟨p, _, rfl, by decide, by decide, fun w w0 w5 => ?_⟩
  refine ⟨rfl, ?_⟩
  rw [eqb_int]
  refine br_if (fun hw => ?_) (fun hw => ?_)
  · refine ⟨row, rfl, p, _, _, rfl, s0, Int.lt_trans hd.2.2.2 (by decide), by omega, by omega, fun ns e1 e2 e3 => q ns ?_ e3 e2⟩
    omega
  refine ⟨by decide, p, _, _, rfl, rfl, (fun z => by cases z), by decide, fun n hn => ?_⟩
  obtain ⟨k, rfl, k0, k3⟩ : ∃ k, n = .int k ∧ 0 ≤ k ∧ k ≤ 3 := by
    rcases (by simpa using hn : n = .int 1 ∨ n = .int 2 ∨ n = .int 3) with rfl | rfl | rfl <;> exact ⟨_, rfl, by decide, by decide⟩
  refine ⟨by omega, by omega, ?_⟩
  refine forW_ind (fun rest env => ∃ (r : List Int) (j2 j5 j6 j7 : Option Sl), env = [some (.d (.box p)), some (.d (Ti row)), j2, some (.d (.int w)), some (.d (Ti r)), j5, j6, j7] ∧ r.length = row.length ∧ r.sum = row.sum ∧ ∀ n ∈ r, 0 ≤ n) ?_ ?_ _ _ ⟨row, none, none, none, none, rfl, rfl, rfl, hd.2.2.1⟩
  · rintro t rest env ⟨r, j2, j5, j6, j7, rfl, e1, e2, e3⟩ ih
    refine ⟨p, _, rfl, by omega, by omega, fun s s0 s1 => ⟨p, _, rfl, by omega, by omega, fun g g0 g1 => ?_⟩⟩
    rw [ll] at s1 g1
    have hs : s.toNat < r.length := by omega
    have hx := List.getElem?_eq_getElem hs
    have x0 := e3 _ (List.getElem_mem hs)
    generalize r[s.toNat] = x at hx x0
    have ix : dIdx (Ti r) (.int s) = some (.int x) := idx_items rfl s0 (by rw [List.getElem?_map, hx]; rfl)
    have go : ∀ m : Int, 0 ≤ m → m ≤ x → ∀ j : Option Sl, F_L_moved [Ti r, .int s, .int g, .int m] (fun d => forW (gNm 2) _ _ rest [some (.d (.box p)), some (.d (Ti row)), some (.d t), some (.d (.int w)), some (.d d), some (.d (.int m)), some (.d (.int s)), some (.d (.int g))]) Ex := fun m m0 mx j =>
      by
      obtain ⟨f1, f2, f3⟩ := moved_row (g := g) e3 s0 g0 (by omega) hx m0 mx
      exact ⟨r, s, g, m, x, rfl, by omega, s0, g0, by omega, hx, ih _ ⟨_, _, _, _, _, rfl, by rw [f1]; exact e1, by rw [f2]; exact e2, f3⟩⟩
    refine ⟨rfl, ?_⟩
    rw [eqb_int]
    refine br_if (fun h1 => ?_) (fun h1 => ?_)
    · refine ⟨_, ix, p, _, rfl, by decide, by decide, fun u u0 u4 => ⟨.inl (.inr (by omega)), ⟨by decide, by decide⟩, ?_⟩⟩
      have hu : x * u ≤ x * 3 := Int.mul_le_mul_of_nonneg_left (by omega) x0
      have hu0 : 0 ≤ x * u := Int.mul_nonneg x0 u0
      exact go _ (by omega) (by omega) none
    · refine ⟨_, ix, ?_⟩
      refine go _ ?_ ?_ none
      · split <;> omega
      · split <;> omega
  · rintro env ⟨r, j2, j5, j6, j7, rfl, e1, e2, e3⟩
    refine ⟨rfl, ?_⟩
    rw [eqb_int]
    refine br_if (fun h1 => ?_) (fun h1 => ?_)
    · refine ⟨p, _, _, rfl, rfl, by rw [List.length_map]; omega, fun ys pm0 => ?_⟩
      obtain ⟨ms, rfl, pm⟩ := perm_ints pm0
      exact q ms (by rw [pm.length_eq]; exact e1) (by rw [sum_perm pm]; exact e2) fun n hn => e3 n (pm.mem_iff.mp hn)
    · exact q r e1 e2 e3
theorem len_L_near_row (ds : List D) (Q : D → Prop) (Ex : Xc → Prop) (h : F_L_near_row ds Q Ex) : ds.length = 2 := by
  obtain ⟨x, y, rfl, _⟩ := h
  rfl
theorem ones_nil {α : Type} (l : List α) (p : α → Bool) : eqb (.lst ((l.filter p).map fun _ => D.int 1)) (.lst []) = l.all fun q => !p q := by
  induction l with
  | nil => rfl
  | cons q l ih =>
    by_cases h : p q = true
    · rw [List.filter_cons_of_pos h, List.all_cons, h]
      rfl
    · rw [List.filter_cons_of_neg h, ih, List.all_cons]
      have : p q = false := by simpa using h
      rw [this]
      rfl
theorem pl_ones {α : Type} (l : List α) : plain 60 (.lst (l.map fun _ => D.int 1)) = true := by
  show (l.map fun _ => D.int 1).all (plain 59) = true
  rw [List.all_map]
  exact List.all_eq_true.mpr fun _ _ => rfl
theorem comp_over {a b : List Int} {v u : Nat} {t : W Bool} {Q : List D → PEnv → Prop} (E : Option Sl → Option Sl → PEnv) (s0 s1 : Option Sl) (hE : ∀ s z x y, ((wipeE (E s z) [v, u]).set v (some (.d x))).set u (some (.d y)) = E (some (.d x)) (some (.d y)))
    (ht : ∀ x y : Int, ∀ (K : Bool → PEnv → Prop) ex, K (decide (y < x)) (E (some (.d (.int x))) (some (.d (.int y)))) → t (E (some (.d (.int x))) (some (.d (.int y)))) K ex)
    (hQ : ∀ s z, Q (((a.zip b).filter fun q => decide (q.2 < q.1)).map fun _ => D.int 1) (E s z)) : compW (gTupP (gsCons (gNm v) (gsCons (gNm u) gsNil)) 2) t (W.ret (.int 1)) [v, u] Q (zipD (a.map D.int) (b.map D.int)) (E s0 s1) [] := by
  rw [zip_ints]
  exact comp_pair (t := t) (e := W.ret (.int 1)) E (fun q => .int q.1) (fun q => .int q.2) (fun _ => .int 1) (fun q => decide (q.2 < q.1)) (a.zip b) s0 s1 [] hE (fun q _ => ht q.1 q.2) (fun q _ _ K ex k => k) fun s z => hQ s z
theorem less_all (a b : List Int) : (((hd a).zip (hd b)).all fun q => !decide (q.2 < q.1)) = lessI a b := by
  unfold lessI
  congr 1
  funext q
  rw [← decide_not]
  exact decide_eq_decide.mpr (by omega)
theorem pure_L_under (ds : List D) (Q : D → Prop) (Ex : Xc → Prop) (h : F_L_under ds Q Ex) : w_L_under (dEnds Q Ex) (startE N_L_under ds) := by
  obtain ⟨a, b, rfl, la, lb, q⟩ := h
  unfold belowI cmpI at q
  refine ⟨rfl, ?_⟩
  rw [eqb_int, lenC]
  refine br_no (br_of (fun h1 => ?_) (fun h1 => ?_))
  · refine ⟨a, rfl, b, rfl, rfl, ?_⟩
    rw [eqb_int]
    refine br_no (br_of (fun h2 => ?_) (fun h2 => ?_))
    · refine ⟨_, a, rfl, rfl, la, _, b, rfl, rfl, lb, ?_⟩
      refine comp_over (fun s z => [some (.d (Ti a)), some (.d (Ti b)), s, z]) none none (fun _ _ _ _ => rfl) (fun x y K ex k => k) fun s z => ?_
      refine ⟨by decide, ?_, ?_⟩
      · rw [pl_ones]
        rfl
      · rw [ones_nil, less_all]
        rw [h1, h2] at q
        exact q
    · rw [h1, h2] at q
      exact q
  · rw [h1] at q
    exact br_tt rfl q
theorem len_L_under (ds : List D) (Q : D → Prop) (Ex : Xc → Prop) (h : F_L_under ds Q Ex) : ds.length = 2 := by
  obtain ⟨x, y, rfl, _⟩ := h
  rfl
theorem less_same {a b : List Int} (hl : a.length = b.length) (h : dn a = dn b) : lessI a b = true := by
  refine (lessI_exs hl).mpr fun s => ?_
  have : exs a s = exs b s := by rw [← exs_perm (dn_perm a), h, exs_perm (dn_perm b)]
  omega
theorem eqb_ints : ∀ (a b : List Int), eqbs (a.map D.int) (b.map D.int) = decide (a = b)
  | [], [] => by simp; rfl
  | [], _ :: _ => by simp; rfl
  | _ :: _, [] => by simp; rfl
  | x :: a, y :: b => by
    show (eqb (.int x) (.int y) && eqbs (a.map D.int) (b.map D.int)) = _
    rw [eqb_ints a b, eqb_int]
    by_cases h1 : x = y <;> by_cases h2 : a = b <;> simp [h1, h2]
theorem eqb_Ti (a b : List Int) : eqb (Ti a) (Ti b) = decide (a = b) := eqb_ints a b
theorem cmp_of {a b : List Int} (e1 : a.length = b.length) (e2 : a.sum = b.sum) : cmpI a b = true := by
  unfold cmpI
  rw [decide_eq_true e1, decide_eq_true e2]
  rfl
theorem dn_of {ns ms : List Int} (p : ms.Perm ns) (s : ms.Pairwise fun a b => b ≤ a) : dn ns = ms :=
  List.Perm.eq_of_pairwise (le := fun a b : Int => b ≤ a) (fun a b _ _ h1 h2 => Int.le_antisymm h2 h1) (dn_sorted ns) s ((dn_perm ns).trans p.symm)
end Ph

namespace Zk
open PySem PySem.Spec PyProof.Rows L2 LamX NdefX
abbrev Grow (h h' : Heap) : Prop := ∀ b o, h.get? b = some o → h'.get? b = some o
theorem Grow.then {a b c : Heap} (x : Grow a b) (y : Grow b c) : Grow a c := fun p o e => y p o (x p o e)
section
variable {P : Program} {w : World} {A : Around} {env : Env} {h0 : Heap}
def GivesI (P : Program) (w : World) (A : Around) (env : Env) (h0 : Heap) (e : Expr) (i : Int) : Prop :=
  ∀ (s : Shared) (Q : Value → Shared → Prop) (E : Value → Shared → Prop), Grow h0 s.heap → (∀ t h' tk, Grow s.heap h' → Q (.int i t) { s with heap := h', toks := tk }) → wpAny (model P w) A (eval e env) Q E s
theorem ns_keep {h h' : Heap} {a : Addr} {m : Str → Option Value} (n : h.Ns a m) (g : Grow h h') : h'.Ns a m := by
  obtain ⟨o, es, ep, at_, rest⟩ := n
  exact ⟨o, es, ep, g _ _ at_, rest⟩
theorem gives_par {x : Str} {pos : Pos} {m : Str → Option Value} {i : Int} {t : Tok} (kind : env.scope.kind = .function) (own : env.scope.names.lookup x = some .local) (ns : h0.Ns env.locals m) (val : m x = some (.int i t)) (hd : (x == ("__debug__" : Str)) = false) : GivesI P w A env h0 (.Name x pos) i :=
  fun s Q E g q => wpAny_Name (wpAny_loadName_local kind own (ns_keep ns g) val (q t s.heap s.toks fun _ _ z => z)) hd
theorem gives_neg {e : Expr} {pos : Pos} {i : Int} (h : GivesI P w A env h0 e i) : GivesI P w A env h0 (.UnaryOp .USub e pos) (-i) :=
  fun s Q E g q => UnaryOp_ (h s _ E g fun t h' tk k => neg_int (q _ h' (tk + 1) k))
theorem gives_ix {y : Str} {e : Expr} {p1 pos : Pos} {c a : Addr} {its : Array Value} {ns : List Int} {k : Nat} {z : Int} (kind : env.scope.kind = .function) (free : env.scope.names.lookup y = some .free) (cell : env.cells.lookup y = some c) (held : h0.IsCell c (some (.ref a)))
    (tup : IsTup h0 a its) (isint : IntsAre its.toList ns) (small : ns.length < 2 ^ 60) (h : GivesI P w A env h0 e (k : Int)) (at_ : ns[k]? = some z) (plain : PlainIx e) (hd : (y == ("__debug__" : Str)) = false) (hcd : (y == ("__classdict__" : Str)) = false) : GivesI P w A env h0 (.Subscript (.Name y p1) e pos) z := by
  intro s Q E g q
  have size : its.size = ns.length := by
    rw [← IntsAre.length isint, Array.length_toList]
  have lt := (List.getElem?_eq_some_iff.mp at_).1
  obtain ⟨t0, ht⟩ := isint.get k z at_
  apply Subscript_
  apply wpAny_Name _ hd
  apply wpAny_loadName_free kind free cell (held.keeps g) _ hcd
  apply h s _ E g
  intro t h' tk grow
  have here : IsTup h' a its := by
    obtain ⟨o, ho, rest⟩ := tup
    exact ⟨o, grow _ _ (g _ _ ho), rest⟩
  refine subscriptTail_builtinR (x := .int z t0) here.typeIs slot_tuple_getitem.lookup (getItem_tuple (j := k) (Q := fun r s' => r = .int z t0 ∧ Q r s') here (by omega) (by omega) ?_ (by simpa using ht) ⟨rfl, q t0 h' tk grow⟩) (plain _ _)
  rw [seqIndex_of (by omega) (by omega), Int.toNat_natCast]
inductive Items (P : Program) (w : World) (A : Around) (env : Env) (h0 : Heap) : List Expr → List Int → Prop
  | nil : Items P w A env h0 [] []
  | cons {e : Expr} {es : List Expr} {i : Int} {is : List Int} : GivesI P w A env h0 e i → starEach (e :: es) env = (false, eval e env) :: starEach es env → Items P w A env h0 es is → Items P w A env h0 (e :: es) (i :: is)
theorem items_run {pos : Pos} {es : List Expr} {is : List Int} (h : Items P w A env h0 es is) : ∀ (s : Shared) (Q : List Value → Shared → Prop) (E : Value → Shared → Prop), Grow h0 s.heap → (∀ us h' tk, IntsAre us is → Grow s.heap h' → Q us { s with heap := h', toks := tk }) →
    wpAny (model P w) A (spliced (backTo pos (starEach es env))) Q E s := by
  induction h with
  | nil => exact fun s Q E g q => Calls.spliced_nil (q [] s.heap s.toks .nil fun _ _ z => z)
  | cons one written more ih =>
    intro s Q E g q
    rw [written]
    apply Calls.spliced_cons
    apply one s _ E g
    intro t h' tk grow
    apply ih { s with heap := h', toks := tk } _ E (g.then grow)
    intro us h2 tk2 isint grow2
    exact q _ h2 tk2 (.cons _ t isint) (grow.then grow2)
theorem reads_ints {h : Heap} : ∀ {us : List Value} {is : List Int}, IntsAre us is → ReadsAll h us (is.map PyData.int) []
  | _, _, .nil => .nil
  | _, _, .cons k t r => by
    have := ReadsAll.cons (.int k t) (reads_ints (h := h) r)
    exact this
theorem key_tuple {es : List Expr} {is : List Int} {x1} {pos : Pos} (h : Items P w A env h0 es is) (few : is.length ≤ 1000000) (s : Shared) (E : Value → Shared → Prop) (g : Grow h0 s.heap) : wpAny (model P w) A (eval (.Tuple es x1 pos) env) (PySem.W.KeyPure (.tuple (is.map PyData.int)) s) E s := by
  apply wpAny_Tuple_spliced
  apply items_run h s _ E g
  intro us h' tk isint grow
  have len := IntsAre.length isint
  refine ⟨by rw [len, sizeLine_eq]; omega, h'.push { cls := .type "tuple", data := .seq us.toArray }, tk, rfl, fun b o e => Heap.get?_push_of_some _ (grow b o e), ?_⟩
  exact .tuple (Heap.get?_push_size _ rfl) rfl rfl (reads_ints isint)
end
section
variable {P : Program} {w : World} {A : Around} {s : Shared}
theorem key_call {f : Addr} {v : Value} {q x : Str} {params : Arguments} {body : Expr} {scope : Scope} {cl : List (Str × Addr)} {pm ctv : Value} {c' : Addr} {k : PyData} (made : s.heap.get? f = some (PySem.W.kla_obj "<lambda>" q params body scope cl pm c' ctv)) (room : A.depth < recursionLimit) (free : s.heap.NoLimit) (code : s.heap.CodeRec (.ref c') q)
    (kind : scope.kind = .function) (co : scope.isCoroutine = false) (gen : scope.isGenerator = false) (nocell : ∀ y ∈ scope.names, y.2 ≠ .cell) (par : scope.names.lookup x = some .local) (bind : bindArgs (PySem.W.kla_fn "<lambda>" q params body scope cl pm (.ref c') ctv) ⟨[v], []⟩ = pure [(x, v)])
    (run : ∀ (h1 : Heap) (tk : Nat), Grow s.heap h1 → h1.Ns s.heap.objs.size (fun y => ([(x, v)] : List (Str × Value)).reverse.lookup y) → wpAny (model P w) (A.deeper (PySem.W.envX q scope s.heap.objs.size f (.ref c') cl)) (eval body (PySem.W.envX q scope s.heap.objs.size f (.ref c') cl)) (PySem.W.KeyPure k { s with heap := h1, toks := tk }) (fun _ _ => False) { s with heap := h1, toks := tk }) :
    wpAny (model P w) A (call (.ref f) [v]) (PySem.W.KeyPure k s) (fun _ _ => False) s := by
  have told : codeAny (model P w) A (.call (.ref f) ⟨[v], []⟩) (fun r s' => ∃ u, r = .ok (.ret u) ∧ PySem.W.KeyPure k s u s') s := by
    apply PySem.W.kla_callFunE room made rfl co gen rfl code
    rw [bind]
    apply wpAny_pure
    refine wpAny_newFunctionEnv nocell (fun y hy => ?_) (fun h1 ns same => ⟨free.fresh _ same, ?_⟩) kind
    · rw [List.mem_singleton.mp hy]
      exact par
    · have grow : Grow s.heap h1 := fun b o e => same.extBut b o (Nat.ne_of_lt (Heap.lt_size e)) (Heap.get?_push_of_some _ e)
      apply PySem.W.kla_codeExpr
      refine wpAny_mono (run h1 _ grow ns) (fun u s' kp => ?_) fun _ _ z => z.elim
      obtain ⟨h2, tk2, rfl, grow2, reads⟩ := kp
      exact ⟨u, rfl, h2, tk2, rfl, grow.then grow2, reads⟩
  apply wpAny_call
  apply codeAny_mono told
  rintro _ s' ⟨u, rfl, kp⟩
  exact kp
theorem sorted_rg {r : Addr} {n : Nat} {t u v : Tok} {kw : List (Str × Value)} {Q : Value → Shared → Prop} {E : Value → Shared → Prop} (hh : A.handled = none) (rg : IsRange s.heap r 0 (n : Int) 1 t u v) (few : n ≤ 1000000) (args : argsOk "sorted" ⟨[.ref r], kw⟩)
    (rest : ∀ (h1 : Heap) (tk : Nat) (vs : List Value), Grow s.heap h1 → PySem.W.EachIs (fun v (i : Nat) => ∃ t, v = Value.int (i : Int) t) vs (List.range n) → wpAny (model P w) A.in1 (call (.builtin "list.sort") [.ref h1.objs.size] kw) (fun _ s' => Q (.ref h1.objs.size) s') E { s with heap := h1.push (seqObj "list" vs.toArray 0), toks := tk }) :
    wpAny (model P w) A (call (.builtin "sorted") [.ref r] kw) Q E s := by
  have each : ∀ (m : Nat) (vs : List Value) (k : Nat), vs.length = m → (∀ j v, vs[j]? = some v → ∃ t, v = Value.int ((k + j : Nat) : Int) t) → PySem.W.EachIs (fun v (i : Nat) => ∃ t, v = Value.int (i : Int) t) vs (List.range' k m) := fun m => by
    induction m with
    | zero =>
      intro vs k hl _
      rw [List.length_eq_zero_iff.mp hl]
      exact .nil
    | succ m ih =>
      intro vs k hl h
      cases vs with
      | nil => cases hl
      | cons a vs =>
        refine .cons (h 0 a rfl) (ih vs (k + 1) (by simpa using hl) fun j b hb => ?_)
        have := h (j + 1) b (by simpa using hb)
        rw [show k + 1 + j = k + (j + 1) by omega]
        exact this
  refine call_function_entry_kw kind_sorted plain_sorted entry_sorted args ?_
  unfold Builtin.«sorted»
  apply wpAny_bind (m := checkCount "sorted" 1 1 _)
  apply wpAny_pure
  apply wpAny_bind
  refine collect_range (n := n) (by simpa using hh) rg ?_ ?_ (by omega) fun h1 tk acc grow items => ?_
  · exact small_one (by omega) (by omega) (by omega) (by omega)
  · rw [rangeSize_nat]
    simp
  · have size : acc.toList.length = n := by rw [Array.length_toList]; exact items.1
    apply wpAny_bind
    apply wpAny_newList _ (by rw [size, sizeLine_eq]; omega)
    have e := each n acc.toList 0 size fun j b hb => by
      obtain ⟨t, ht⟩ := items.2 j b (by rw [← Array.getElem?_toList]; exact hb)
      exact ⟨t, by rw [ht]; simp⟩
    rw [← List.range_eq_range'] at e
    apply wpAny_bind
    apply wpAny_holding
    exact wpAny_mono (rest h1 tk acc.toList grow e) (fun _ s' x => wpAny_pure ⟨_, rfl, x⟩) fun _ _ z => z
end
end Zk
namespace Pd
open PySem PySem.Spec PyProof.Rows L2 LamX NdefX
inductive KP where
  | self
  | neg (j : Nat)
def KP.val (rows : Nat → List Int) (i : Nat) : KP → Int
  | .self => (i : Int)
  | .neg j => -((rows j).getD i 0)
def kvals (rows : Nat → List Int) (ks : List KP) (i : Nat) : List Int := ks.map (KP.val rows i)
abbrev leK (rows : Nat → List Int) (ks : List KP) : Nat → Nat → Bool := PySem.W.dataLe false fun i => PyData.tuple ((kvals rows ks i).map PyData.int)
inductive IsKP (sc : Scope) (N : List Str) (x : Str) : Expr → KP → Prop
  | self {p : Pos} : IsKP sc N x (.Name x p) .self
  | neg {j : Nat} {y : Str} {p1 p2 p3 p4 : Pos} : N[j]? = some y → sc.names.lookup y = some .free → (y == ("__debug__" : Str)) = false → (y == ("__classdict__" : Str)) = false → IsKP sc N x (.UnaryOp .USub (.Subscript (.Name y p1) (.Name x p2) p3) p4) (.neg j)
inductive AreKP (sc : Scope) (N : List Str) (x : Str) : List Expr → List KP → Prop
  | nil : AreKP sc N x [] []
  | cons {e : Expr} {es : List Expr} {k : KP} {ks : List KP} : IsKP sc N x e k → (∀ env : Env, starEach (e :: es) env = (false, eval e env) :: starEach es env) → AreKP sc N x es ks → AreKP sc N x (e :: es) (k :: ks)
structure KScope (sc scope : Scope) (x : Str) : Prop where
  kind : scope.kind = .function
  co : scope.isCoroutine = false
  gen : scope.isGenerator = false
  nocell : ∀ y ∈ scope.names, y.2 ≠ .cell
  par : scope.names.lookup x = some .local
  free : ∀ y ∈ scope.names, y.2 = .free → sc.names.lookup y.1 = some .cell ∨ sc.names.lookup y.1 = some .free
  pd : (x == ("__debug__" : Str)) = false
def kscB (sc scope : Scope) (x : Str) : Bool :=
  decide (scope.kind = .function) && (!scope.isCoroutine && (!scope.isGenerator && (scope.names.all (fun y => !decide (y.2 = .cell)) && (decide (scope.names.lookup x = some .local) && (scope.names.all (fun y => !decide (y.2 = .free) || (decide (sc.names.lookup y.1 = some .cell) || decide (sc.names.lookup y.1 = some .free))) && !(x == ("__debug__" : Str)))))))
theorem kscope_by {sc scope : Scope} {x : Str} (h : kscB sc scope x = true) : KScope sc scope x := by
  unfold kscB at h
  simp only [Bool.and_eq_true, Bool.not_eq_true', decide_eq_true_eq, List.all_eq_true, Bool.or_eq_true, decide_eq_false_iff_not] at h
  obtain ⟨h1, h2, h3, h4, h5, h6, h7⟩ := h
  exact ⟨h1, h2, h3, h4, h5, fun y hy e => (h6 y hy).elim (fun z => absurd e z) id, h7⟩
def Held (env : List (Option Sl)) (rows : Nat → List Int) (n : Nat) : List KP → Prop
  | [] => True
  | .self :: ks => Held env rows n ks
  | .neg j :: ks => gt env j = some (.d (.tup ((rows j).map D.int))) ∧ n ≤ (rows j).length ∧ (rows j).length < 2 ^ 60 ∧ Held env rows n ks
def wSortKey (ks : List KP) (a : W D) : W (List D) := a.bind fun m env Q _ => ∃ (n : Nat) (rows : Nat → List Int), m = .int (n : Int) ∧ n ≤ 1000000 ∧ ks ≠ [] ∧ ks.length ≤ 100 ∧ Held env rows n ks ∧ Q (((List.range n).mergeSort (leK rows ks)).map fun (i : Nat) => D.int (i : Int)) env
end Pd

namespace Pd
open PySem PySem.Spec PyProof.Rows L2 LamX NdefX
theorem alike_ks (rows : Nat → List Int) (i j : Nat) : ∀ ks : List KP, PySem.W.alikeAll ((kvals rows ks i).map PyData.int) ((kvals rows ks j).map PyData.int) = true
  | [] => rfl
  | k :: ks => by
    show (true && PySem.W.alikeAll ((kvals rows ks i).map PyData.int) ((kvals rows ks j).map PyData.int)) = true
    rw [alike_ks rows i j ks]
    rfl
theorem depth_is : ∀ is : List Int, PyData.depthAll (is.map PyData.int) ≤ 1
  | [] => by decide
  | i :: is => by
    have := depth_is is
    show max (PyData.depth (.int i)) (PyData.depthAll (is.map PyData.int)) ≤ 1
    have e : PyData.depth (.int i) ≤ 1 := Nat.le_of_ble_eq_true rfl
    omega
theorem key_items {P : Program} {w : World} {A : Around} {env : Env} {h0 : Heap} {N : List Str} {x : Str} {rows : Nat → List Int} {i n : Nat} {V0 : PEnv} (hi : i < n)
    (self_ : ∀ p, Zk.GivesI P w A env h0 (.Name x p) (i : Int)) (neg_ : ∀ (j : Nat) (y : Str) (p1 p2 p3 : Pos) (z : Int), N[j]? = some y → env.scope.names.lookup y = some .free → (y == ("__debug__" : Str)) = false → (y == ("__classdict__" : Str)) = false → gt V0 j = some (.d (.tup ((rows j).map D.int))) → (rows j).length < 2 ^ 60 → (rows j)[i]? = some z → Zk.GivesI P w A env h0 (.Subscript (.Name y p1) (.Name x p2) p3) z) :
    ∀ {es : List Expr} {ks : List KP}, AreKP env.scope N x es ks → Held V0 rows n ks → Zk.Items P w A env h0 es (kvals rows ks i)
  | _, _, .nil, _ => .nil
  | _, _, .cons (.self) written more, h => .cons (self_ _) (written env) (key_items hi self_ neg_ more h)
  | _, _, .cons (.neg (j := j) hN free hd hcd) written more, ⟨at_, hl, hz, h⟩ => by
    have e := List.getElem?_eq_getElem (show i < (rows j).length by omega)
    refine .cons ?_ (written env) (key_items hi self_ neg_ more h)
    show Zk.GivesI P w A env h0 _ (-((rows j).getD i 0))
    rw [List.getD_eq_getElem?_getD, e]
    exact Zk.gives_neg (neg_ j _ _ _ _ _ hN free hd hcd at_ hz e)
section
variable {X : Cx} {T : List (Addr × Str)} {E : XK} {k : Nat}
structure Rg (X : Cx) (T : List (Addr × Str)) (c : Ctx) (wd : Wd) (ks : List KP) (P : List D → PEnv → Prop) (σ : L2.St) (b : Int) (H1 : Hp) : Prop where
  ex : ∃ (n : Nat) (rows : Nat → List Int) (wd1 : Wd) (env1 : PEnv), b = (n : Int) ∧ n ≤ 1000000 ∧ ks ≠ [] ∧ ks.length ≤ 100 ∧ Held env1 rows n ks ∧ P (((List.range n).mergeSort (leK rows ks)).map fun (i : Nat) => D.int (i : Int)) env1 ∧ Le wd wd1 ∧ Rel X.K T c wd1 env1 σ H1
theorem vals_is : ∀ {out : List Value} {is : List Nat}, PySem.W.EachIs (fun v (i : Nat) => ∃ t, v = Value.int (i : Int) t) out is → Vals (is.map fun (i : Nat) => V.int (i : Int)) out
  | _, _, .nil => .nil
  | _, _, .cons ⟨t, e⟩ r => by
    subst e
    exact .cons ⟨t, rfl⟩ (vals_is r)
theorem reps_is {K : PySem.W.Frag} {wd : Wd} : ∀ is : List Nat, Reps K wd (is.map fun (i : Nat) => V.int (i : Int)) (is.map fun (i : Nat) => D.int (i : Int))
  | [] => .nil
  | i :: is => .cons (.int _) (reps_is is)
theorem jf_sortKey {y x : Str} {a : Expr} {w : W D} {ks : List KP} {params : Arguments} {es : List Expr} {x1} {scope : Scope} {p p2 pr pos kpos lpos bp : Pos} (B : Bd X E k) (L : LamT X.K X.mg X.base T y) (hm : X.mg "sorted" = none) (hm2 : X.mg "range" = none) (ha : JE T X E a w)
    (S : KScope X.env.scope scope x) (kp : AreKP scope X.N x es ks)
    (hq : X.env.qual ++ "<lambda>" = lamNm y := by rfl) (hcode : X.env.code = .ref (He.codeOf X.K (y, none)) := by rfl) (hdef : defaultsOf params X.env = ([], []) := by rfl)
    (hbind : ∀ (q : Str) (cl : List (Str × Addr)) (pm cv ctv v : Value), bindArgs (PySem.W.kla_fn "<lambda>" q params (.Tuple es x1 bp) scope cl pm cv ctv) ⟨[v], []⟩ = pure [(x, v)] := by intros; rfl)
    (hg : Gl X "sorted" := by rfl) (hg2 : Gl X "range" := by rfl) (na : starEach [a] X.env = (false, eval a X.env) :: starEach [] X.env := by rfl)
    (hs : starEach [.Call (.Name "range" p2) [a] [] pr] X.env = (false, eval (.Call (.Name "range" p2) [a] [] pr) X.env) :: starEach [] X.env := by rfl)
    (he : backTo pos (starEach [.Call (.Name "range" p2) [a] [] pr] X.env) = (false, eval (.Call (.Name "range" p2) [a] [] pr) X.env) :: backTo pos (starEach [] X.env) := by rfl)
    (hpl : (backTo pos (starEach [.Call (.Name "range" p2) [a] [] pr] X.env)).any (·.1) = false := by rfl)
    (hall : (backToKw pos (keywordEach [⟨some "key", .Lambda params (.Tuple es x1 bp) scope lpos, kpos⟩] X.env)).all (·.1.isSome) = true := by rfl)
    (hnone : (backToKw pos (keywordEach [⟨some "key", .Lambda params (.Tuple es x1 bp) scope lpos, kpos⟩] X.env)).any (·.1.isNone) = false := by rfl)
    (hks : (backToKw pos (keywordEach [⟨some "key", .Lambda params (.Tuple es x1 bp) scope lpos, kpos⟩] X.env)).filterMap (·.1) = [Str.ofString "key"] := by rfl) :
    JF T X E (.Call (.Name "sorted" p) [.Call (.Name "range" p2) [a] [] pr] [⟨some "key", .Lambda params (.Tuple es x1 bp) scope lpos, kpos⟩] pos) (wSortKey ks w) := by
  refine ⟨fun pins s σ H Q I h => ?_⟩
  obtain ⟨c, wd, env, P, Ex, r, hw, xo, kk⟩ := h
  refine wpAny_Call_Name_kw (ld_blt I hg hm (by decide +kernel : bootBuiltins "sorted" = some (.builtin "sorted")) ?_)
  refine PyProof.Rows.callWith_kw ?_ he hpl hall hnone
  rw [he]
  refine Calls.spliced_cons (Call_ (ld_blt I hg2 hm2 PyProof.Rows.boot_range (PyProof.Rows.callWith_type1 (one_arg ha (R := fun m H1 => ∃ b : Int, m = .int b ∧ Rg X T c wd ks P σ b H1) I ⟨c, wd, env, _, Ex, r, hw, xo, fun m env1 ⟨n, rows, e1, hn, k0, k9, held, q⟩ v wd1 H1 le1 r1 rp1 => ?_⟩ (fun v s0 m H1 I0 rm info => ?_) na) na)))
  · subst e1
    cases rp1
    exact ⟨(n : Int), rfl, ⟨n, rows, wd1, env1, rfl, hn, k0, k9, held, q, le1, r1⟩⟩
  obtain ⟨b, rfl, ⟨n, rows, wd1, env1, rfl, hn, k0, k9, held, q, le1, r1⟩⟩ := info
  obtain ⟨t, rfl⟩ := rm
  refine call_range_1 ?_
  have I1 : Inv X ((s0.heap.objs.size, _) :: pins) σ H1 _ := ClX.pin_new (t' := s0.toks + 1 + 1) (o := { cls := .type "range", data := .fields #[.int 0 s0.toks, .int (n : Int) t, .int 1 (s0.toks + 1)] }) I0 (fun b u e => Heap.get?_push_of_some _ e) (Nat.le_refl _) (Heap.get?_push_size _ rfl) (fun v z => by cases z)
  refine Calls.spliced_nil ?_
  show wpAny _ _ (evalAll [do let v ← eval (.Lambda params (.Tuple es x1 bp) scope lpos) X.env; standAt pos; pure v]) _ _ _
  have hfree : ∀ y ∈ scope.names, y.2 = .free → ∃ c, X.env.cells.lookup y.1 = some c := fun y hy e => (S.free y hy e).elim (fun z => I1.ok.has _ (.inl z)) fun z => I1.ok.has _ (.inr z)
  refine wpAny_evalAll_cons (wpAny_bind (lam_make2 (T := T) I1 L.tb hcode (by rw [hq]; exact L.mem) (fun p hp e => by rw [hq]; exact L.uni p hp e) r1.good.tab hdef hfree fun f c' pm ctv H2 s2 I2 eN T2 made nof nofr code => ?_))
  refine wpAny_bind (wpAny_standAt (wpAny_pure (wpAny_evalAll_nil ?_)))
  rw [hks]
  show wpAny _ _ (call (.builtin "sorted") [.ref s0.heap.objs.size] [(Str.ofString "key", .ref f)]) _ _ s2
  have g2 : Good T wd1 H2 := r1.good.extN eN T2 (hok_siz I2.hok)
  have r2 : Rel X.K T c wd1 env1 σ H2 := r1.go (Ord.refl _ _) g2 (Keep.extN eN)
  have isr : IsRange s2.heap s0.heap.objs.size 0 (n : Int) 1 s0.toks t (s0.toks + 1) := ClX.pin_at I2
  have hd := I2.ok.hd B.calm
  have codeR := codeO_at I2.hok code
  have free := I2.nolimit
  have un := B.room.un
  have dp := B.room.dp
  refine Zk.sorted_rg hd isr hn (PyProof.Rows.ksk_s1 _ _) fun h1 tk vs grow each => ?_
  have lr : (List.range n).length ≤ sizeLine := by rw [List.length_range, sizeLine_eq]; omega
  refine PySem.W.list_sort_key_data (s := { s2 with heap := h1.push (seqObj "list" vs.toArray 0), toks := tk }) (bs := List.range n) (R := fun v (i : Nat) => ∃ t, v = Value.int (i : Int) t) (b := false) (fun i => PyData.tuple ((kvals rows ks i).map PyData.int)) (Heap.get?_push_size _ rfl) each (fun d hd d' hd' => ?_) (.inl fun d hd => ?_) lr (fun i _ => ?_) (PyProof.Rows.ksk_l1 _ _) (PyProof.Rows.ksk_t1 _ _) (fun v i hv hi h4 tk4 kb4 => ?_) fun out c3 h3 tk3 kb at3 lo eo => ?_
  · obtain ⟨i, _, rfl⟩ := List.mem_map.mp hd
    obtain ⟨j, _, rfl⟩ := List.mem_map.mp hd'
    exact alike_ks rows i j ks
  · obtain ⟨i, _, rfl⟩ := List.mem_map.mp hd
    cases ks with
    | nil => exact absurd rfl k0
    | cons k1 ks => exact ⟨_, _, rfl⟩
  · have := depth_is (kvals rows ks i)
    show X.A.units + 1 + 1 + (PyData.depthAll ((kvals rows ks i).map PyData.int) + 1) < cLine
    omega
  · obtain ⟨tv, rfl⟩ := hv
    have hin : i < n := List.mem_range.mp hi
    have g14 : Zk.Grow h1 h4 := fun b o e => kb4 b o (Nat.ne_of_lt (Heap.lt_size e)) (Heap.get?_push_of_some _ e)
    have g4 : Zk.Grow s2.heap h4 := grow.then g14
    have codeK : Heap.CodeRec h4 (.ref c') (X.env.qual ++ "<lambda>") := by
      obtain ⟨c0, oc, ws, tc, e1, e2, e3, e4⟩ := codeR
      exact ⟨c0, oc, ws, tc, e1, g4 _ _ e2, e3, e4⟩
    refine Zk.key_call (s := { s2 with heap := h4, toks := tk4 }) (x := x) (g4 _ _ made) (by show X.A.depth < _; omega) (free.keeps g4) codeK S.kind S.co S.gen S.nocell S.par (hbind _ _ _ _ _ _) fun h5 tk5 g5 ns => ?_
    have g25 : Zk.Grow s2.heap h5 := g4.then g5
    have selfI : ∀ p, Zk.GivesI X.prog X.w (X.A.in1.in1.deeper (PySem.W.envX (X.env.qual ++ "<lambda>") scope h4.objs.size f (.ref c') (cloFrom X.env.cells scope.names []))) (PySem.W.envX (X.env.qual ++ "<lambda>") scope h4.objs.size f (.ref c') (cloFrom X.env.cells scope.names [])) h5 (.Name x p) (i : Int) := fun p =>
      Zk.gives_par (t := tv) S.kind S.par ns (by simp [List.lookup]) S.pd
    refine Zk.key_tuple (h0 := h5) (is := kvals rows ks i) (key_items (V0 := env1) (N := X.N) (n := n) hin selfI (fun j y p1 p2 p3 z hN fr hdb hcd at_ small hz => ?_) kp held) (by show (ks.map _).length ≤ _; rw [List.length_map]; omega) { s2 with heap := h5, toks := tk5 } _ fun _ _ z => z
    obtain ⟨vj, ej, rp⟩ := r2.dat j _ (gt_eq _ _ at_)
    cases rp with
    | @tup aj vsj _ hsq rs =>
      rw [rs.ints] at hsq
      obtain ⟨its, va, tup, _⟩ := I2.tuple (sub_sqT g2 hsq)
      have cap := cells_of I2 (Caps.made (fr := [y]) (js := [j]) I2.ok S.free (fun y' hy' => by rw [List.mem_singleton.mp hy']; exact PySem.mem_of_lookup fr) (by simp [hN]))
      obtain ⟨cy, hc, hv⟩ := cap.has 0 y rfl
      obtain ⟨u, ru, cell⟩ := hv (.ref aj) (by
        show some (slotAt σ j) = _
        rw [slotAt_of ej])
      cases ru
      have tup5 : IsTup h5 aj its.toArray := by
        obtain ⟨o, ho, rest⟩ := tup
        exact ⟨o, g25 _ _ ho, rest⟩
      exact Zk.gives_ix S.kind fr hc (cell.keeps g25) tup5 (by simpa using ints_of_vals va) small (selfI _) hz (fun _ _ => rfl) hdb hcd
  · have hz : (((List.range n).mergeSort (leK rows ks)).map fun (i : Nat) => V.int (i : Int)).length ≤ sizeLine := by
      rw [List.length_map, List.length_mergeSort]
      exact lr
    have I3 : Inv X pins σ H2 { s2 with heap := h1, toks := tk } := (ClX.unpin I2).kept grow
    have hnone : H2 h1.objs.size = none := I3.hok.fresh (Nat.le_refl _)
    have J := I3.laid (a := h1.objs.size) (o := .lst (((List.range n).mergeSort (leK rows ks)).map fun (i : Nat) => V.int (i : Int))) (h' := h3) (t' := tk3) (fun b u e => kb b u (Nat.ne_of_lt (Heap.lt_size e)) (Heap.get?_push_of_some _ e)) (Nat.le_refl _) ⟨hz, out, c3, vals_is eo, at3⟩
    obtain ⟨r3, f3⟩ := r2.fresh hnone (reps_is ((List.range n).mergeSort (leK rows ks))) hz
    exact ⟨.ref h1.objs.size, _, J, rfl, kk _ env1 q _ wd1 _ le1 r3 f3⟩
end
end Pd

namespace Zn
open PySem
section
variable {prog : Program} {w : World}
def DSt (b d : Nat) (cs : List (Nat × Array Value)) (k : Nat) (h : Heap) : Prop := IsTupN h (b + cs.length) (itsN b cs.length) ∧ Srcs h b cs k 0 ∧
  (FreeZ h b cs ∨ ∃ (T : Nat) (f : Bool) (oT : Obj), IsZ h (b + cs.length + 2) (b + cs.length) (b + cs.length + 1) (rawInt T) f ∧ h.get? T = some oT ∧ b + cs.length + 2 < T ∧ T ≠ d)
theorem DSt.typ {s : Shared} {b d k : Nat} {cs : List (Nat × Array Value)} (z : DSt b d cs k s.heap) : s.TypeIs (.ref (b + cs.length + 2)) "zip" := by
  rcases z.2.2 with ⟨os, h, _⟩ | ⟨T, f, oT, h, _⟩
  · exact ⟨_, h, rfl⟩
  · exact ⟨_, h, rfl⟩
def OkZ (b : Nat) (cs : List (Nat × Array Value)) (h : Heap) : Prop := IsTupN h (b + cs.length) (itsN b cs.length) ∧ Srcs h b cs 0 0 ∧ FreeZ h b cs
theorem srcs_there {h : Heap} {b k : Nat} {cs : List (Nat × Array Value)} (s : Srcs h b cs k 0) (j : Nat) (hj : j < cs.length) : (∃ o, h.get? (b + j) = some o) ∧ ∃ o, h.get? cs[j].1 = some o := by
  have e : cs[j]? = some (cs[j].1, cs[j].2) := List.getElem?_eq_getElem hj
  rcases s.it j _ _ e with ⟨⟨o, h1, _⟩, ⟨o2, h2, _⟩⟩ | ⟨⟨o, h1, _⟩, ⟨o2, h2, _⟩⟩
  · exact ⟨⟨o, h1⟩, o2, h2⟩
  · exact ⟨⟨o, h1⟩, o2, h2⟩
def wrZ (b n : Nat) : List Addr := (List.range (n + 3)).map fun j : Nat => (b + j : Nat)
theorem in_wr {b n : Nat} {c : Nat} (h1 : b ≤ c) (h2 : c ≤ b + n + 2) : c ∈ wrZ b n :=
  List.mem_map.mpr ⟨c - b, List.mem_range.mpr (by omega), by omega⟩
theorem out_of {b n : Nat} {c : Nat} (h : c ∉ wrZ b n) : c < b ∨ b + n + 2 < c := by
  apply Decidable.byContradiction
  intro z
  exact h (in_wr (by omega) (by omega))
theorem srcs_frame {h h' : Heap} {b k d : Nat} {cs : List (Nat × Array Value)} (s : Srcs h b cs k 0) (d1 : d ∉ wrZ b cs.length) (d2 : d ∉ cs.map (·.1)) (hk : ∀ (a : Nat) o, a ≠ d → h.get? a = some o → h'.get? a = some o) : Srcs h' b cs k 0 :=
  ⟨fun j c xs hj => (s.it j c xs hj).at (fun o e => hk _ o (fun z => d1 (by rw [← z]; exact in_wr (by omega) (by have := (List.getElem?_eq_some_iff.mp hj).1; omega))) e) fun o e => hk _ o (fun z => d2 (by rw [← z]; exact List.mem_map.mpr ⟨_, List.mem_of_getElem? hj, rfl⟩)) e, s.lo⟩
theorem zipArg (b c1 c2 : Nat) (xs ys : Array Value) (cs : List (Nat × Array Value)) (hcs : cs = [(c1, xs), (c2, ys)]) :
    PairArg prog w "zip" (b + cs.length + 2 : Nat) (wrZ b cs.length ++ cs.map (·.1)) (wrZ b cs.length) (min xs.size ys.size) (fun i k v => xs[i]? = some k ∧ ys[i]? = some v) (OkZ b cs) where
  type := fun s ok => (show DSt b 0 cs 0 s.heap from ⟨ok.1, ok.2.1, .inl ok.2.2⟩).typ
  notDict := by decide
  keep := fun h h' ok hk => ⟨hk _ _ ok.1, ok.2.1.same fun a o _ e => hk a o e, by obtain ⟨os, e1, e2, e3⟩ := ok.2.2; exact ⟨os, hk _ _ e1, hk _ _ e2, e3⟩⟩
  there := fun h ok a ha => by
    obtain ⟨os, e1, e2, _⟩ := ok.2.2
    rcases List.mem_append.mp ha with ha | ha
    · obtain ⟨j, hj, rfl⟩ := List.mem_map.mp ha
      have hj := List.mem_range.mp hj
      by_cases h1 : j < cs.length
      · exact (srcs_there ok.2.1 j h1).1
      · by_cases h2 : j = cs.length
        · subst h2
          exact ⟨_, ok.1⟩
        · by_cases h3 : j = cs.length + 1
          · subst h3
            exact ⟨_, e2⟩
          · have : j = cs.length + 2 := by omega
            subst this
            exact ⟨_, e1⟩
    · obtain ⟨q, hq, rfl⟩ := List.mem_map.mp ha
      obtain ⟨j, hj, rfl⟩ := List.mem_iff_getElem.mp hq
      exact (srcs_there ok.2.1 j hj).2
  sub := fun a ha => List.mem_append_left _ ha
  noKeys := fun A s Q E hA ok h => by
    obtain ⟨os, e1, _⟩ := ok.2.2
    exact getAttrOr_miss_zip e1 rfl rfl rfl zip_no_keys (by decide +kernel) hA h
  iter := fun A s d Q E hA ok hd hdf h => by
    have d1 : d ∉ wrZ b cs.length := fun z => hdf (List.mem_append_left _ z)
    have d2 : d ∉ cs.map (·.1) := fun z => hdf (List.mem_append_right _ z)
    have few : cs.length = 2 := by rw [hcs]; rfl
    have some_ : cs ≠ [] := by rw [hcs]; simp
    have lim : cs.length ≤ sizeLine := by rw [few]; decide
    have nw : ∀ c : Nat, b ≤ c → c ≤ b + cs.length + 2 → c ≠ d := fun c h1 h2 z => d1 (by rw [← z]; exact in_wr h1 h2)
    have st0 : DSt b d cs 0 s.heap := ⟨ok.1, ok.2.1, .inl ok.2.2⟩
    apply wpAny_pyIter_slot st0.typ F.slot_zip_iter
    apply wpAny_call_entry F.slot_zip_iter st0.typ F.entry_zip_iter _ (F.args_zip_iter_1 _)
    apply wpAny_pure
    refine ⟨_, rfl, "zip", _, st0.typ, F.slot_zip_next.lookup, h _ (wrZ b cs.length) (DSt b d cs) s.heap s.toks ?_ st0 (fun _ _ e => e) fun c hc => .inl hc⟩
    exact {
      off := d1
      frame := fun i h1 h2 st hk => by
        refine ⟨hk _ _ (ne_ (nw _ (by omega) (by omega))) st.1, srcs_frame st.2.1 d1 d2 fun a o z e => hk a o (ne_ z) e, ?_⟩
        rcases st.2.2 with ⟨os, e1, e2, e3⟩ | ⟨T, f, oT, e1, e2, e3, e4⟩
        · exact .inl ⟨os, hk _ _ (ne_ (nw _ (by omega) (by omega))) e1, hk _ _ (ne_ (nw _ (by omega) (by omega))) e2, e3⟩
        · exact .inr ⟨T, f, oT, hk _ _ (ne_ (nw _ (by omega) (by omega))) e1, hk _ _ (ne_ e4) e2, e3, e4⟩
      item := fun i s1 Q1 E1 hi st hds hQ => by
        have hix : i < xs.size := Nat.lt_of_lt_of_le hi (Nat.min_le_left ..)
        have hiy : i < ys.size := Nat.lt_of_lt_of_le hi (Nat.min_le_right ..)
        have ex := Array.getElem?_eq_getElem hix
        have ey := Array.getElem?_eq_getElem hiy
        have hl : ∀ q ∈ cs, i < q.2.size := fun q hq => by
          rw [hcs] at hq
          rcases List.mem_cons.mp hq with rfl | hq
          · exact hix
          · rw [List.mem_singleton.mp hq]
            exact hiy
        have pair : ∀ h' : Heap, IsTupN h' s1.heap.objs.size (cs.map fun q => q.2[i]?.getD .none).toArray → PairAt h' s1.heap.objs.size xs[i] ys[i] := fun h' e => by
          have e2 : (cs.map fun q => q.2[i]?.getD Value.none).toArray = #[xs[i], ys[i]] := by
            rw [hcs]
            show #[xs[i]?.getD Value.none, ys[i]?.getD Value.none] = _
            rw [ex, ey]
            rfl
          rw [e2] at e
          exact .inl ⟨_, e, rfl, _, rfl⟩
        have zl : b + cs.length + 2 < s1.heap.objs.size := by
          rcases st.2.2 with ⟨os, e1, _⟩ | ⟨T, f, oT, e1, _⟩
          · exact Heap.lt_size e1
          · exact Heap.lt_size e1
        apply next_road st.typ
        rcases st.2.2 with ⟨os, free, out, size⟩ | ⟨T, f, oT, held, there, below, off⟩
        · refine free_item free (by omega) st.1 out size st.2.1 some_ hl lim fun h' z1 sr new _ more keeps => ?_
          exact hQ s1.heap.objs.size _ _ h' s1.toks ⟨ex, ey⟩ (pair h' new) ⟨keeps _ _ (by omega) (by omega) (.inr (by omega)) st.1, sr, .inr ⟨_, _, _, z1, new, zl, fun z => Nat.lt_irrefl _ (z ▸ hds)⟩⟩
            fun c o hc e => by
              have := out_of hc
              exact keeps c o (by omega) (by omega) (by omega) e
        · refine held_item held there (by omega) st.1 st.2.1 some_ hl lim fun h' z1 sr new more keeps => ?_
          exact hQ s1.heap.objs.size _ _ h' s1.toks ⟨ex, ey⟩ (pair h' new) ⟨keeps _ _ (by omega) (.inr (by omega)) st.1, sr, .inr ⟨T, _, oT, z1, keeps _ _ (by omega) (.inr (by omega)) there, below, off⟩⟩
            fun c o hc e => by
              have := out_of hc
              exact keeps c o (by omega) (by omega) e
      done := fun s1 Q1 E1 st hQ => by
        have hend : ∃ q ∈ cs, q.2.size ≤ min xs.size ys.size := by
          rw [hcs]
          rcases Nat.le_total xs.size ys.size with h | h
          · exact ⟨_, List.mem_cons_self, by rw [Nat.min_eq_left h]; exact Nat.le_refl _⟩
          · exact ⟨_, List.mem_cons_of_mem _ List.mem_cons_self, by rw [Nat.min_eq_right h]; exact Nat.le_refl _⟩
        apply next_road st.typ
        rcases st.2.2 with ⟨os, free, out, size⟩ | ⟨T, f, oT, held, there, below, off⟩
        · refine free_end hA free (by omega) st.1 out size st.2.1 hend lim fun h' a keeps ⟨o, at_, stop⟩ => ?_
          exact ⟨a, o, rfl, at_, stop, hQ h' s1.toks fun c o hc e => by
            have := out_of hc
            exact keeps c o (by omega) (by omega) (by omega) e⟩
        · refine held_end hA held there (by omega) st.1 st.2.1 hend fun h' a keeps ⟨o, at_, stop⟩ => ?_
          exact ⟨a, o, rfl, at_, stop, hQ h' s1.toks fun c o hc e => by
            have := out_of hc
            exact keeps c o (by omega) (by omega) e⟩ }
end
end Zn

namespace Zn
open PySem PySem.Spec PyProof.Rows L2
section
variable {X : Cx}
def tDictZ (tz : TZ) : TE := fun σ H Q => tz σ H fun xss H1 => ∃ (ks : List Int) (vs : List V), xss = [ks.map V.int, vs] ∧ ks.Nodup ∧ ks.length = vs.length ∧ ks.length ≤ sizeLine ∧ ∀ p, H1 p = none → Q (.ref p) (upd H1 p (.dK ((ks.map Sum.inl).zip vs)))
theorem kv_zip : ∀ {ks : List Int} {vs : List V} {us : List Value}, Vals vs us → ks.length = vs.length → KV ((ks.map (Sum.inl : Int → Key)).zip vs) ((ks.map (Sum.inl : Int → Key)).zip us)
  | [], _, _, .nil, _ => .nil
  | k :: ks, _, _, .cons r t, h => .cons ⟨rfl, r⟩ (kv_zip t (by simpa using h))
  | [], _, _, .cons r t, h => by simp at h
  | _ :: _, _, _, .nil, h => by simp at h
theorem keys_zip : ∀ {ks : List Int} {us : List Value}, ks.length = us.length → ((ks.map (Sum.inl : Int → Key)).zip us).map (·.1) = ks.map Sum.inl
  | [], [], _ => rfl
  | k :: ks, u :: us, h => by
    show Sum.inl k :: ((ks.map (Sum.inl : Int → Key)).zip us).map (·.1) = _
    rw [keys_zip (ks := ks) (us := us) (by simpa using h)]
    rfl
  | [], _ :: _, h => by simp at h
  | _ :: _, [], h => by simp at h
theorem int_at : ∀ {ks : List Int} {us : List Value}, Vals (ks.map V.int) us → ∀ (i : Nat) (u : Value), us[i]? = some u → ∃ k t, ks[i]? = some k ∧ u = Value.int k t
  | [], _, .nil, i, u, h => by simp at h
  | k :: ks, _, .cons r t, 0, u, h => by
    obtain ⟨tk, rfl⟩ := r
    obtain rfl : Value.int k tk = u := by simpa using h
    exact ⟨k, tk, rfl, rfl⟩
  | k :: ks, _, .cons r t, i + 1, u, h => by
    obtain ⟨k', t', e1, e2⟩ := int_at t i u (by simpa using h)
    exact ⟨k', t', by simpa using e1, e2⟩
theorem pe_dictZ {e : Expr} {tz : TZ} {p pos : Pos} (hc : X.calm = true) (hg : Gl X "dict") (hm : X.mg "dict" = none) (he : PZ X e tz) (na : starEach [e] X.env = (false, eval e X.env) :: starEach [] X.env := by rfl) : PE X (.Call (.Name "dict" p) [e] [] pos) (tDictZ tz) := by
  refine ⟨fun pins s σ H Q I h => ?_⟩
  refine Call_ (ld_blt I hg hm PyProof.Rows.boot_dict (PyProof.Rows.callWith_type1 (args_cons (thn (he pins s σ H _ I h) fun x s' ⟨s1, h1, cs, xss, H1, es, ex, z, hz, hk1, I1, hd, hne, hcl, fz, q0⟩ => args_nil ?_) na) na))
  subst es ex
  obtain ⟨ks, vs, rfl, nd, hl, hn, q⟩ := q0
  have hlen := hd.len
  match cs, hlen, z, fz, hz, hd, hcl with
  | [(c1, xs), (c2, ys)], _, z, fz, hz, hd, hcl =>
    have r1 := hd.at_ 0 c1 xs _ rfl rfl
    have r2 := hd.at_ 1 c2 ys _ rfl rfl
    have l1 : ks.length = xs.size := by
      have := vals_len r1
      simpa using this
    have l2 : vs.length = ys.size := by
      have := vals_len r2
      simpa using this
    have n0 : min xs.size ys.size = ks.length := by omega
    have l3 : ys.toList.length = ys.size := Array.length_toList
    have l4 : [(c1, xs), (c2, ys)].length = 2 := rfl
    have ar := zipArg (prog := X.prog) (w := X.w) s1.heap.objs.size c1 c2 xs ys _ rfl
    refine PySem.call_dict_pairs (s := { s1 with heap := h1 }) (knd := mixKind X.prog X.w) (kvs := (ks.map (Sum.inl : Int → Key)).zip ys.toList) ar (I1.ok.hd hc) ⟨z.ti, z.sr, fz⟩ ⟨?_, fun i key v hr => ?_⟩ (by rw [n0]; exact hn) fun h' tk hd' hk => ?_
    · rw [List.length_zip, List.length_map]
      omega
    · obtain ⟨e1, e2⟩ := hr
      obtain ⟨k, t, e3, e4⟩ := int_at r1 i key (by simpa using e1)
      refine ⟨Sum.inl k, List.getElem?_zip_eq_some.mpr ⟨?_, by simpa using e2⟩, ?_⟩
      · rw [List.getElem?_map, e3]
        rfl
      · rw [e4]
        exact mixKind_int _ _ k t
    · have kn : (((ks.map (Sum.inl : Int → Key)).zip ys.toList).map (·.1)).Nodup := by
        rw [keys_zip (by omega)]
        exact List.Pairwise.map _ (fun a b h e => h (Sum.inl.inj e)) nd
      rw [merged_nil_of_nodup _ kn] at hd'
      have fresh : H1 h1.objs.size = none := I1.hok.fresh (by show s1.heap.objs.size ≤ h1.objs.size; omega)
      have keeps : ∀ b o, s1.heap.get? b = some o → h'.get? b = some o := fun b o e => hk b o (fun m => by
        have lt := Heap.lt_size e
        obtain ⟨j, _, ej⟩ := List.mem_map.mp m
        exact Nat.lt_irrefl _ (Nat.lt_of_lt_of_le lt (Nat.le_trans (Nat.le_add_right s1.heap.objs.size j) (Nat.le_of_eq ej)))) (hk1 b o e)
      have hm : (h1.objs.size == sysModules) = false := beq_eq_false_iff_ne.mpr (Nat.ne_of_gt (Nat.lt_of_lt_of_le I1.big (by omega)))
      have hsz : ((ks.map (Sum.inl : Int → Key)).zip vs).length ≤ sizeLine := by
        rw [List.length_zip, List.length_map]
        omega
      exact ⟨.ref h1.objs.size, _, I1.laid (a := h1.objs.size) (o := .dK ((ks.map Sum.inl).zip vs)) (t' := tk) keeps (by omega) ⟨hsz, hm, _, kv_zip r2 hl, hd'⟩, rfl, q _ fresh⟩
theorem get_list : PGet X (rIxL X.K) := by
  rintro pins s σ H _ _ v u Q I list_ num ⟨p, xs, i, z, rfl, rfl, seq, found, goal⟩
  cases list_
  obtain ⟨t, rfl⟩ := num
  obtain ⟨us, rel, plain, _⟩ := I.list seq
  obtain ⟨j, place, item, _, low, high⟩ := atI_get found
  obtain ⟨y, there, same⟩ := rel.get item
  have len := rel.length
  have lim := line63
  have size : us.toArray.size = xs.length := by rw [List.size_toArray, len]
  have stands : us.toArray[j]? = some y := by simpa using there
  rcases Int.lt_or_le i 0 with neg | pos
  · rw [seqIndex_neg neg low] at place
    have back : (i + (us.toArray.size : Int)).toNat = j := by rw [size]; exact Option.some.inj place
    rw [← back] at stands
    exact wpAny_getItem_list_neg plain.isList neg (by rw [size]; omega) (by omega) stands ⟨z, H, I, same, goal⟩
  · rw [seqIndex_of pos high] at place
    rw [← Option.some.inj place] at stands
    exact wpAny_getItem_list plain.isList pos (by omega) stands ⟨z, H, I, same, goal⟩
end
end Zn

namespace Pd
open PySem PySem.Spec PyProof.Rows L2 LamX Zn
section
variable {X : Cx} {T : List (Addr × Str)} {E : XK} {k : Nat}
def dicZ (ks : List Int) (vs : List D) : List (Key × D) := (ks.map Sum.inl).zip vs
def wDictZip (w : W (List (List D))) : W D := w.bind fun dss env Q _ => ∃ (ks : List Int) (vs : List D), dss = [ks.map D.int, vs] ∧ ks.Nodup ∧ ks.length = vs.length ∧ ks.length ≤ 1000000 ∧ Q (.dic (dicZ ks vs)) env
theorem reps_ks {K : PySem.W.Frag} {wd : Wd} : ∀ {ks : List Int} {xs : List V}, Reps K wd xs (ks.map D.int) → xs = ks.map V.int
  | [], _, .nil => rfl
  | k :: ks, _, .cons r t => by
    cases r
    rw [reps_ks t]
    rfl
theorem reps_len {K : PySem.W.Frag} {wd : Wd} : ∀ {xs : List V} {ds : List D}, Reps K wd xs ds → xs.length = ds.length
  | _, _, .nil => rfl
  | _, _, .cons _ t => congrArg (· + 1) (reps_len t)
theorem zip_1 {α β : Type} : ∀ {as : List α} {bs : List β}, as.length = bs.length → (as.zip bs).map (·.1) = as
  | [], [], _ => rfl
  | a :: as, b :: bs, h => by
    show a :: (as.zip bs).map (·.1) = _
    rw [zip_1 (by simpa using h)]
  | [], _ :: _, h => by simp at h
  | _ :: _, [], h => by simp at h
theorem zip_2 {α β : Type} : ∀ {as : List α} {bs : List β}, as.length = bs.length → (as.zip bs).map (·.2) = bs
  | [], [], _ => rfl
  | a :: as, b :: bs, h => by
    show b :: (as.zip bs).map (·.2) = _
    rw [zip_2 (by simpa using h)]
  | [], _ :: _, h => by simp at h
  | _ :: _, [], h => by simp at h
theorem je_dictZip {e : Expr} {w : W (List (List D))} {p pos : Pos} (B : Bd X E k) (hm : X.mg "dict" = none) (he : JZ T X E e w) (hg : Gl X "dict" := by rfl) (na : starEach [e] X.env = (false, eval e X.env) :: starEach [] X.env := by rfl) : JE T X E (.Call (.Name "dict" p) [e] [] pos) (wDictZip w) :=
  peI (pe_dictZ B.calm hg hm he na) fun σ H Q ⟨c, wd, env, P, Ex, r, h, xo, kk⟩ => ⟨c, wd, env, _, Ex, r, h, xo, fun dss env1 h1 xss wd1 H1 le1 r1 rp1 => by
    obtain ⟨ks, vs, rfl, nd, hl, hn, h2⟩ := h1
    cases rp1 with
    | cons rk t =>
      cases t with
      | cons rv t =>
        cases t
        rename_i us
        have := reps_ks rk
        subst this
        have l2 := reps_len rv
        refine ⟨ks, us, rfl, nd, by omega, sz6 hn, fun p hp => ?_⟩
        have hz : ((ks.map (Sum.inl : Int → Key)).zip us).length ≤ 1000000 := by rw [List.length_zip, List.length_map]; omega
        have g : Grow wd1 H1 (wd1.add p (.dK ((ks.map Sum.inl).zip us))) (upd H1 p (.dK ((ks.map Sum.inl).zip us))) := Grow.one hp noTb_dK trivial
        refine kk _ env1 h2 (.ref p) _ _ (le1.trans (Le.add (r1.good.mnone hp))) (r1.grow g) (.dic upd_same ?_ ?_)
        · rw [zip_1 (by rw [List.length_map]; omega)]
          unfold dicZ
          rw [zip_1 (by rw [List.length_map]; omega)]
        · rw [zip_2 (by rw [List.length_map]; omega)]
          unfold dicZ
          rw [zip_2 (by rw [List.length_map]; omega)]
          exact rv.mono (Le.add (r1.good.mnone hp))⟩
def lookD (ds : List (Key × D)) (k : Key) : Option D := (ds.find? fun kv => decide (kv.1 = k)).map (·.2)
theorem look_reps {K : PySem.W.Frag} {wd : Wd} {k : Key} : ∀ {vs : List (Key × V)} {ds : List (Key × D)}, vs.map (·.1) = ds.map (·.1) → Reps K wd (vs.map (·.2)) (ds.map (·.2)) → ∀ z, lookD ds k = some z → ∃ v, valV vs k = some v ∧ Rep K wd v z
  | [], [], _, _, z, h => by cases h
  | (a, v) :: vs, (b, d) :: ds, e, r, z, h => by
    have e1 : a = b := by simpa using (List.cons.inj e).1
    subst e1
    cases r with
    | cons r0 r1 =>
      unfold lookD at h
      unfold valV
      rw [List.find?_cons] at h ⊢
      by_cases hk : a = k
      · have : decide (a = k) = true := decide_eq_true hk
        simp only [this] at h ⊢
        cases h
        exact ⟨v, rfl, r0⟩
      · have : decide (a = k) = false := decide_eq_false hk
        simp only [this] at h ⊢
        exact look_reps (List.cons.inj e).2 r1 z h
  | [], _ :: _, e, _, _, _ => by cases e
  | _ :: _, [], e, _, _, _ => by cases e
def wDGet (a b : W D) : W D := a.bind fun x => b.bind fun y env Q _ => ∃ ds n z, x = .dic ds ∧ y = .int n ∧ lookD ds (Sum.inl n) = some z ∧ Q z env
theorem je_dget {o i : Expr} {a b : W D} {pos : Pos} (B : Bd X E k) (ho : JE T X E o a) (hi : JE T X E i b) (hs : NoSl i) : JE T X E (.Subscript o i pos) (wDGet a b) :=
  peI (pe_dget (by have := B.room.un; omega) ho hi hs) fun σ H Q ⟨c, wd, env, P, Ex, r, h, xo, kk⟩ => ⟨c, wd, env, _, Ex, r, h, xo, fun x env1 h1 v wd1 H1 le1 r1 rp1 => ⟨c, wd1, env1, _, Ex, r1, h1, xo, fun y env2 h2 u wd2 H2 le2 r2 rp2 => by
    obtain ⟨ds, n, z, rfl, rfl, e1, h3⟩ := h2
    cases rp2
    cases rp1 with
    | @dic a vs _ hM ek rs =>
      have rs2 := rs.mono le2
      obtain ⟨v, e2, rv⟩ := look_reps ek rs2 z e1
      exact ⟨a, v, rfl, .inl ⟨vs, Sum.inl n, .inl (r2.good.sub _ _ (le2.m _ _ hM)), rfl, e2.symm⟩, kk _ env2 h3 v wd2 H2 (le1.trans le2) r2 rv⟩⟩⟩
def sAugIx (i : Nat) (iw : W D) (g : D → D → Option D) (ew : W D) : WS := fun pe env => ownIs env i fun _ => iw env (fun n env1 => ownIs env1 i fun xs => match n with
  | .int n => ∃ z, dIdx (.lst xs) (.int n) = some z ∧ ew env1 (fun y env2 => ownIs env2 i fun xs2 => ∃ r j, g z y = some r ∧ ixN xs2.length n = some j ∧ pe.nx (env2.set i (some (.own (xs2.set j r))))) pe.ex
  | _ => False) pe.ex
theorem js_augIx (i : Nat) {x : Str} {y e : Expr} {iw ew : W D} {op : Operator} {g : D → D → Option D} {p1 p2 pos : Pos} (hi : JE T X E y iw) (ho : OpDI X op g) (he : JE T X E e ew) (hN : X.N[i]? = some x := by rfl) (hv : Vis X.env.scope x := by first | exact Or.inl rfl | exact Or.inr (Or.inl rfl) | exact Or.inr (Or.inr rfl)) (hd : (x == ("__debug__" : Str)) = false := by decide)
    (hcd : (x == ("__classdict__" : Str)) = false := by decide) (ha : ∀ ov iv new, augStore y ov iv new = (do holding [new, ov, iv] (setItem ov iv new); release [new, ov, iv] []; pure .next) := by intros; rfl) : JS T X E (.AugAssign (.Subscript (.Name x p1) y p2) op e pos) (sAugIx i iw g ew) := by
  obtain ⟨ti, o1, o2⟩ := ho
  refine psI (ps_augS (pe_var hN hv hd hcd) hi get_list he o1 set_list ha) fun D σ H ⟨c, wd, env, pe, rl, h, o⟩ => ?_
  obtain ⟨xs0, e0, h1⟩ := ownIs_inv h
  obtain ⟨p0, vs0, z0, zh, _⟩ := rl.own i xs0 (gt_eq _ _ e0)
  refine ⟨.ref p0, z0, c, wd, env, _, _, rl, h1, o.ex, fun n env1 h2 w wd1 H1 le1 r1 rp1 => ?_⟩
  obtain ⟨xs, e1, h3⟩ := ownIs_inv h2
  clear h2
  have h2 := h3
  clear h3
  obtain ⟨p1, vs, z1, z2, z3, z4, z5, z6⟩ := r1.own i xs (gt_eq _ _ e1)
  rw [z0] at z1
  cases z1
  split at h2
  · rename_i n
    cases rp1
    obtain ⟨z, e2, h2⟩ := h2
    obtain ⟨v, e3, r3⟩ := atI_reps z6 e2
    refine ⟨_, vs, _, v, rfl, rfl, .inl (.inl z2), e3, c, wd1, env1, _, _, r1, h2, o.ex, fun y env2 h4 u wd2 H2 le2 r2 rp2 => ?_⟩
    obtain ⟨xs2, e4, r, j, e5, e6, h5⟩ := ownIs_inv h4
    refine o2 z y r e5 T wd2 H2 v u _ r2.good (r3.mono le2) rp2 fun w3 wd3 H3 g3 rp3 => ?_
    have r4 := r2.grow g3
    obtain ⟨p2, vs2, y1, y2, y3, y4, y5, y6⟩ := r4.own i xs2 (gt_eq _ _ e4)
    rw [z0] at y1
    cases y1
    refine ⟨_, vs2, n, j, rfl, rfl, y2, by rw [y6.length]; exact e6, o.nx _ h5 _ wd3 _ (le1.trans (le2.trans (g3.le r2.good))) (r4.mut (gt_eq _ _ e4) z0 (y6.set j rp3) ?_)⟩
    rw [List.length_set]
    exact r4.good.siz _ _ y2
  · exact h2.elim
end
end Pd

namespace Ph
open PySem PySem.Spec PyProof.Rows L2 LamX Pd
def alk (ps : List (Int × Int)) : Bool := !((ps.flatMap fun p => ps.map fun q => decide (q.1 < p.1) && decide (p.2 < q.2)).any id)
theorem alk_iff (ps : List (Int × Int)) : alk ps = true ↔ ∀ p ∈ ps, ∀ q ∈ ps, q.1 < p.1 → ¬ p.2 < q.2 := by
  unfold alk
  rw [Bool.not_eq_true', List.any_eq_false]
  constructor
  · intro h p hp q hq h1 h2
    refine h true (List.mem_flatMap.mpr ⟨p, hp, List.mem_map.mpr ⟨q, hq, ?_⟩⟩) rfl
    rw [decide_eq_true h1, decide_eq_true h2]
    rfl
  · intro h x hx e
    obtain ⟨p, hp, hx⟩ := List.mem_flatMap.mp hx
    obtain ⟨q, hq, rfl⟩ := List.mem_map.mp hx
    simp only [id_eq, Bool.and_eq_true, decide_eq_true_eq] at e
    exact h p hp q hq e.1 e.2
def le2 (b : List Int) (i j : Nat) : Bool := decide (-(b.getD i 0) < -(b.getD j 0) ∨ -(b.getD i 0) = -(b.getD j 0) ∧ (i : Int) ≤ (j : Int))
theorem leK_le2 (rows : Nat → List Int) (k : Nat) : leK rows [.neg k, .self] = le2 (rows k) :=
  PySem.W.dataLe_ii (fun i : Nat => -((rows k).getD i 0)) fun i : Nat => (i : Int)
def pl (b : List Int) : List Nat := (List.range b.length).mergeSort (le2 b)
theorem pl_perm (b : List Int) : (pl b).Perm (List.range b.length) := List.mergeSort_perm _ _
theorem pl_nodup (b : List Int) : (pl b).Nodup := (pl_perm b).nodup_iff.mpr List.nodup_range
theorem pl_len (b : List Int) : (pl b).length = b.length := by rw [(pl_perm b).length_eq, List.length_range]
theorem pl_sorted (b : List Int) : (pl b).Pairwise fun i j => b.getD j 0 ≤ b.getD i 0 := by
  have h := List.pairwise_mergeSort (le := le2 b) (fun i j k h1 h2 => by
    unfold le2 at *
    have h1 := of_decide_eq_true h1
    have h2 := of_decide_eq_true h2
    exact decide_eq_true (by omega)) (fun i j => by
    unfold le2
    by_cases h : -(b.getD i 0) < -(b.getD j 0) ∨ -(b.getD i 0) = -(b.getD j 0) ∧ (i : Int) ≤ (j : Int)
    · rw [decide_eq_true h]; rfl
    · rw [decide_eq_true (p := -(b.getD j 0) < -(b.getD i 0) ∨ -(b.getD j 0) = -(b.getD i 0) ∧ (j : Int) ≤ (i : Int)) (by omega)]; simp) (List.range b.length)
  refine h.imp fun {i j} h => ?_
  have := of_decide_eq_true (show decide _ = true from h)
  omega
def atP (l : List (Nat × Int)) (i : Nat) : Int := ((l.find? fun q => decide (q.1 = i)).map (·.2)).getD 0
def arr (a b : List Int) : List Int := (List.range b.length).map (atP ((pl b).zip (dn a)))
theorem find_zip {i : Nat} {v : Int} : ∀ {p : List Nat} {vs : List Int} {k : Nat}, p.Nodup → p[k]? = some i → vs[k]? = some v → (p.zip vs).find? (fun q => decide (q.1 = i)) = some (i, v)
  | [], _, k, _, h, _ => by simp at h
  | _ :: _, [], k, _, _, h => by simp at h
  | a :: p, w :: vs, 0, _, h1, h2 => by
    simp at h1 h2
    subst h1 h2
    rw [List.zip_cons_cons, List.find?_cons]
    simp
  | a :: p, w :: vs, k + 1, nd, h1, h2 => by
    have ne : a ≠ i := fun z => (List.nodup_cons.mp nd).1 (by rw [z]; exact List.mem_of_getElem? (i := k) (by simpa using h1))
    rw [List.zip_cons_cons, List.find?_cons]
    simp only [decide_eq_false ne]
    exact find_zip (List.nodup_cons.mp nd).2 (by simpa using h1) (by simpa using h2)
theorem arr_at {a b : List Int} (hl : a.length = b.length) {i : Nat} (hi : i < b.length) : ∃ (k : Nat) (v : Int), (pl b)[k]? = some i ∧ (dn a)[k]? = some v ∧ (arr a b)[i]? = some v ∧ atP ((pl b).zip (dn a)) i = v ∧ ((pl b).zip (dn a)).find? (fun q => decide (q.1 = i)) = some (i, v) := by
  obtain ⟨k, hk⟩ := List.mem_iff_getElem?.mp ((pl_perm b).mem_iff.mpr (List.mem_range.mpr hi))
  have lk : k < (dn a).length := by
    have := (List.getElem?_eq_some_iff.mp hk).1
    rw [pl_len] at this
    rw [(dn_perm a).length_eq]
    omega
  have hv := List.getElem?_eq_getElem lk
  have hf := find_zip (pl_nodup b) hk hv
  refine ⟨k, _, hk, hv, ?_, ?_, hf⟩
  · unfold arr
    rw [List.getElem?_map, List.getElem?_range hi]
    show some (atP _ i) = _
    unfold atP
    rw [hf]
    rfl
  · unfold atP
    rw [hf]
    rfl
theorem arr_alk {a b : List Int} (hl : a.length = b.length) : alk ((arr a b).zip b) = true := by
  rw [alk_iff]
  intro p hp q hq h1 h2
  obtain ⟨i, hi⟩ := List.mem_iff_getElem?.mp hp
  obtain ⟨j, hj⟩ := List.mem_iff_getElem?.mp hq
  obtain ⟨i1, i2⟩ := List.getElem?_zip_eq_some.mp hi
  obtain ⟨j1, j2⟩ := List.getElem?_zip_eq_some.mp hj
  have li := (List.getElem?_eq_some_iff.mp i2).1
  have lj := (List.getElem?_eq_some_iff.mp j2).1
  obtain ⟨k, v, k1, k2, k3, _⟩ := arr_at hl li
  obtain ⟨l, w, l1, l2, l3, _⟩ := arr_at hl lj
  rw [k3] at i1
  rw [l3] at j1
  have e1 : v = p.1 := Option.some.inj i1
  have e2 : w = q.1 := Option.some.inj j1
  have hkl : k < l := by
    apply Decidable.byContradiction
    intro z
    rcases Nat.lt_or_ge l k with h | h
    · have := List.pairwise_iff_getElem.mp (dn_sorted a) l k (List.getElem?_eq_some_iff.mp l2).1 (List.getElem?_eq_some_iff.mp k2).1 h
      rw [(List.getElem?_eq_some_iff.mp l2).2, (List.getElem?_eq_some_iff.mp k2).2] at this
      omega
    · have : k = l := by omega
      subst this
      rw [k2] at l2
      have := Option.some.inj l2
      omega
  have := List.pairwise_iff_getElem.mp (pl_sorted b) k l (List.getElem?_eq_some_iff.mp k1).1 (List.getElem?_eq_some_iff.mp l1).1 hkl
  rw [(List.getElem?_eq_some_iff.mp k1).2, (List.getElem?_eq_some_iff.mp l1).2] at this
  simp only [List.getD_eq_getElem?_getD, i2, j2, Option.getD_some] at this
  omega
end Ph

namespace Zn
open PySem PySem.Spec PyProof.Rows L2
def SqK (K : PySem.W.Frag) (t : Bool) (H : Hp) (a : Addr) (xs : List V) : Prop := match t with
  | false => SqL K H a xs
  | true => SqT K H a xs
def ItK (h : Heap) (t : Bool) (it c : Nat) (k : Nat) : Prop := match t with
  | false => h.IsListIter it c k
  | true => h.IsTupleIter it c k
section
variable {X : Cx} {pins : List (Addr × Obj)} {σ : L2.St} {H : Hp} {s : Shared}
end
end Zn
namespace Zn
open PySem PySem.Spec PyProof.Rows L2
end Zn
namespace Pd
open PySem PySem.Spec PyProof.Rows L2 LamX Zn
section
variable {X : Cx} {T : List (Addr × Str)} {E : XK} {k : Nat}
end
end Pd

namespace Ph
open PySem PySem.Spec PyProof.Rows L2 LamX Pd
abbrev Stp := Int × Int × Int
abbrev encS (q : Stp) : D := .tup [.int q.1, .int q.2.1, .int q.2.2]
def stepB (d : D) (L : Int) : Bool := match d with
  | .tup [x, y, z] => inR x 0 (L - 1) && inR y 0 (L - 1) && !(eqb x y) && inR z 1 maxN
  | _ => false
def stepsB (d : D) (L : Int) : Bool := match d with
  | .tup xs => xs.all fun x => stepB x L
  | _ => false
def okS (L : Int) (q : Stp) : Prop := 0 ≤ q.1 ∧ q.1 < L ∧ 0 ≤ q.2.1 ∧ q.2.1 < L ∧ q.1 ≠ q.2.1 ∧ 1 ≤ q.2.2 ∧ q.2.2 ≤ maxN
def deS : D → Option Stp
  | .tup [.int s, .int g, .int m] => some (s, g, m)
  | _ => none
def stsOf : D → List Stp
  | .tup xs => xs.filterMap deS
  | _ => []
def mvd (row : List Int) (q : Stp) : List Int := (row.set q.1.toNat (row[q.1.toNat]?.getD 0 - q.2.2)).set q.2.1.toNat ((row.set q.1.toNat (row[q.1.toNat]?.getD 0 - q.2.2))[q.2.1.toNat]?.getD 0 + q.2.2)
def bhd : List Int → List Stp → Option (List Int)
  | row, [] => some row
  | row, q :: t => if row[q.1.toNat]?.getD 0 < row[q.2.1.toNat]?.getD 0 + 2 * q.2.2 then none else bhd (mvd row q) t
def optT : Option (List Int) → D
  | some r => Ti r
  | none => .non
def aft (a : List Int) (v : D) : Option (List Int) := if stepsB v (a.length : Int) = true then bhd a (stsOf v) else none
def kdd (v : D) : Prop := kd v ∧ ∀ xs, v = .tup xs → xs.length ≤ 1000 ∧ ∀ y ∈ xs, kds y
def F_are_arranged_alike : Fn := fun ds Q _ => ∃ a b, ds = [Ti a, Ti b] ∧ a.length ≤ 900 ∧ b.length ≤ 900 ∧ Q (.bl (alk (a.zip b)))
def F_is_arranged_alike : Fn := fun ds Q Ex => ∃ x y, ds = [x, y] ∧ two x y Ex fun a b => Q (.bl (decide (a.length = b.length) && alk (a.zip b)))
def F_arranged : Fn := fun ds Q Ex => ∃ x y, ds = [x, y] ∧ two x y Ex fun a b => (a.length = b.length → Q (Ti (arr a b))) ∧ (a.length ≠ b.length → Ex badO)
def F_is_step : Fn := fun ds Q _ => ∃ x L, ds = [x, .int L] ∧ kds x ∧ Q (.bl (stepB x L))
def F_are_steps : Fn := fun ds Q _ => ∃ x L, ds = [x, .int L] ∧ kdd x ∧ Q (.bl (stepsB x L))
def F_behind : Fn := fun ds Q _ => ∃ row sts, ds = [Ti row, .tup (sts.map encS)] ∧ row.length ≤ 1000 ∧ (∀ q ∈ sts, okS row.length q) ∧ Q (optT (bhd row sts))
def F_after : Fn := fun ds Q Ex => ∃ x v, ds = [x, v] ∧ kds x ∧ (isRow x = false → Ex bad) ∧ ∀ a, x = Ti a → rowI a → kdd v ∧ (∀ r, aft a v = some r → Q (Ti r)) ∧ (aft a v = none → Ex badO)
def F_units : Fn := fun ds Q Ex => ∃ v, ds = [v] ∧ kdd v ∧ (stepsB v 64 = true → Q (.int ((stsOf v).map fun q => q.2.2).sum)) ∧ (stepsB v 64 = false → Ex badO)
def F_is_road : Fn := fun ds Q Ex => ∃ x y v, ds = [x, y, v] ∧ two x y Ex fun a b => kdd v ∧ Q (.bl (decide (aft a v = some b)))
def fitB (row : List Int) (q : Stp) : Bool := !decide (q.1 = q.2.1) && (decide (0 ≤ q.1 ∧ q.1 < row.length) && (decide (0 ≤ q.2.1 ∧ q.2.1 < row.length) && (decide (1 ≤ q.2.2) && decide (row[q.2.1.toNat]?.getD 0 + 2 * q.2.2 ≤ row[q.1.toNat]?.getD 0))))
def wlk : List Int → List Stp → Option (List Int)
  | row, [] => some row
  | row, q :: t => if fitB row q = true then wlk (mvd row q) t else none
theorem sts_enc (sts : List Stp) : stsOf (.tup (sts.map encS)) = sts := by
  show (sts.map encS).filterMap deS = sts
  rw [List.filterMap_map]
  induction sts with
  | nil => rfl
  | cons q t ih =>
    rw [List.filterMap_cons]
    show q :: _ = _
    rw [ih]
theorem inR_int {x : D} {a b : Int} (h : inR x a b = true) : ∃ i, x = .int i ∧ a ≤ i ∧ i ≤ b := by
  cases x with
  | int i =>
    unfold Pd.inR at h
    simp only [Bool.and_eq_true, decide_eq_true_eq] at h
    exact ⟨i, rfl, h⟩
  | _ => cases h
theorem stepB_enc {d : D} {L : Int} (h : stepB d L = true) : ∃ q, d = encS q ∧ okS L q := by
  unfold stepB at h
  split at h
  · rename_i x y z
    simp only [Bool.and_eq_true] at h
    obtain ⟨⟨⟨h1, h2⟩, h3⟩, h4⟩ := h
    obtain ⟨s, rfl, s1, s2⟩ := inR_int h1
    obtain ⟨g, rfl, g1, g2⟩ := inR_int h2
    obtain ⟨m, rfl, m1, m2⟩ := inR_int h4
    rw [eqb_int] at h3
    refine ⟨(s, g, m), rfl, s1, by show s < L; omega, g1, by show g < L; omega, fun e => ?_, m1, m2⟩
    rw [decide_eq_true (show s = g from e)] at h3
    cases h3
  · cases h
theorem stepB_of {q : Stp} {L : Int} (h : okS L q) : stepB (encS q) L = true := by
  obtain ⟨s1, s2, g1, g2, ne, m1, m2⟩ := h
  show (inR (.int q.1) 0 (L - 1) && inR (.int q.2.1) 0 (L - 1) && !(eqb (.int q.1) (.int q.2.1)) && inR (.int q.2.2) 1 maxN) = true
  rw [eqb_int, decide_eq_false ne]
  show ((decide (0 ≤ q.1) && decide (q.1 ≤ L - 1)) && (decide (0 ≤ q.2.1) && decide (q.2.1 ≤ L - 1)) && !false && (decide (1 ≤ q.2.2) && decide (q.2.2 ≤ maxN))) = true
  rw [decide_eq_true s1, decide_eq_true (show q.1 ≤ L - 1 by omega), decide_eq_true g1, decide_eq_true (show q.2.1 ≤ L - 1 by omega), decide_eq_true m1, decide_eq_true m2]
  rfl
theorem stepsB_enc {d : D} {L : Int} (h : stepsB d L = true) : ∃ sts : List Stp, d = .tup (sts.map encS) ∧ ∀ q ∈ sts, okS L q := by
  unfold stepsB at h
  split at h
  · rename_i xs
    suffices ∃ sts : List Stp, xs = sts.map encS ∧ ∀ q ∈ sts, okS L q by
      obtain ⟨sts, rfl, h9⟩ := this
      exact ⟨sts, rfl, h9⟩
    induction xs with
    | nil => exact ⟨[], rfl, fun q hq => nomatch hq⟩
    | cons x xs ih =>
      rw [List.all_cons, Bool.and_eq_true] at h
      obtain ⟨q, rfl, h1⟩ := stepB_enc h.1
      obtain ⟨sts, rfl, h2⟩ := ih h.2
      refine ⟨q :: sts, rfl, fun r hr => ?_⟩
      rcases List.mem_cons.mp hr with rfl | hr
      · exact h1
      · exact h2 r hr
  · cases h
theorem stepsB_of {sts : List Stp} {L : Int} (h : ∀ q ∈ sts, okS L q) : stepsB (.tup (sts.map encS)) L = true := by
  show (sts.map encS).all _ = true
  rw [List.all_map, List.all_eq_true]
  exact fun q hq => stepB_of (h q hq)
theorem stepsB_iff {sts : List Stp} {L : Int} : stepsB (.tup (sts.map encS)) L = true ↔ ∀ q ∈ sts, okS L q := by
  refine ⟨fun h q hq => ?_, stepsB_of⟩
  obtain ⟨st2, e, h2⟩ := stepsB_enc h
  have : sts = st2 := by
    rw [← sts_enc sts, ← sts_enc st2]
    rw [e]
  rw [this] at hq
  exact h2 q hq
theorem fit_iff {row : List Int} {q : Stp} : fitB row q = true ↔ q.1 ≠ q.2.1 ∧ 0 ≤ q.1 ∧ q.1 < row.length ∧ 0 ≤ q.2.1 ∧ q.2.1 < row.length ∧ 1 ≤ q.2.2 ∧ row[q.2.1.toNat]?.getD 0 + 2 * q.2.2 ≤ row[q.1.toNat]?.getD 0 := by
  unfold fitB
  simp only [Bool.and_eq_true, Bool.not_eq_true', decide_eq_false_iff_not, decide_eq_true_eq]
  constructor
  · rintro ⟨h1, ⟨h2, h3⟩, ⟨h4, h5⟩, h6, h7⟩
    exact ⟨h1, h2, h3, h4, h5, h6, h7⟩
  · rintro ⟨h1, h2, h3, h4, h5, h6, h7⟩
    exact ⟨h1, ⟨h2, h3⟩, ⟨h4, h5⟩, h6, h7⟩
theorem mvd_len (row : List Int) (q : Stp) : (mvd row q).length = row.length := by
  unfold mvd
  rw [List.length_set, List.length_set]
theorem at_mem {row : List Int} {i : Int} (h0 : 0 ≤ i) (h1 : i < row.length) : ∃ x, row[i.toNat]? = some x ∧ row[i.toNat]?.getD 0 = x ∧ x ∈ row := by
  have := List.getElem?_eq_getElem (show i.toNat < row.length by omega)
  exact ⟨_, this, by rw [this]; rfl, List.getElem_mem _⟩
theorem mvd_fit {row : List Int} {q : Stp} (f : fitB row q = true) {M : Int} (h : ∀ n ∈ row, 0 ≤ n ∧ n ≤ M) : (mvd row q).sum = row.sum ∧ ∀ n ∈ mvd row q, 0 ≤ n ∧ n ≤ M := by
  obtain ⟨ne, s0, s1, g0, g1, m1, le⟩ := fit_iff.mp f
  obtain ⟨x, ex, ex2, hx⟩ := at_mem s0 s1
  obtain ⟨y, ey, ey2, hy⟩ := at_mem g0 g1
  rw [ex2, ey2] at le
  have bx := h x hx
  have bY := h y hy
  have ne2 : q.1.toNat ≠ q.2.1.toNat := fun z => ne (by omega)
  have ey3 : (row.set q.1.toNat (x - q.2.2))[q.2.1.toNat]? = some y := by rw [List.getElem?_set_ne ne2]; exact ey
  unfold mvd
  rw [ex2, ey3]
  show ((row.set q.1.toNat (x - q.2.2)).set q.2.1.toNat (y + q.2.2)).sum = _ ∧ _
  refine ⟨?_, fun n hn => ?_⟩
  · rw [sum_set _ _ _ _ ey3, sum_set _ _ _ _ ex]
    omega
  · rcases List.mem_or_eq_of_mem_set hn with hn | rfl
    · rcases List.mem_or_eq_of_mem_set hn with hn | rfl
      · exact h n hn
      · omega
    · show 0 ≤ y + q.2.2 ∧ y + q.2.2 ≤ M
      omega
theorem wlk_ok : ∀ (sts : List Stp) (row : List Int), (∀ n ∈ row, 0 ≤ n ∧ n ≤ maxN) → (∀ r, wlk row sts = some r → (∀ q ∈ sts, okS row.length q) ∧ bhd row sts = some r ∧ r.length = row.length ∧ r.sum = row.sum ∧ ∀ n ∈ r, 0 ≤ n ∧ n ≤ maxN) ∧ (wlk row sts = none → (∀ q ∈ sts, okS row.length q) → bhd row sts = none)
  | [], row, h => ⟨fun r e => by
    cases e
    exact ⟨fun q hq => (nomatch hq), rfl, rfl, rfl, h⟩, fun e => (nomatch e)⟩
  | q :: t, row, h => by
    by_cases f : fitB row q = true
    · have e1 : wlk row (q :: t) = wlk (mvd row q) t := if_pos f
      obtain ⟨ne, s0, s1, g0, g1, m1, le⟩ := fit_iff.mp f
      obtain ⟨x, ex, ex2, hx⟩ := at_mem s0 s1
      obtain ⟨y, ey, ey2, hy⟩ := at_mem g0 g1
      have e2 : bhd row (q :: t) = bhd (mvd row q) t := if_neg (by omega)
      obtain ⟨i1, i2⟩ := wlk_ok t (mvd row q) (mvd_fit f h).2
      rw [mvd_len] at i1 i2
      rw [e1, e2]
      refine ⟨fun r e => ?_, fun e o => i2 e fun r hr => o r (List.mem_cons_of_mem _ hr)⟩
      obtain ⟨j1, j2, j3, j4, j5⟩ := i1 r e
      refine ⟨fun r hr => ?_, j2, j3, by rw [j4, (mvd_fit f h).1], j5⟩
      rcases List.mem_cons.mp hr with rfl | hr
      · have := (h y hy).1
        have := (h x hx).2
        exact ⟨s0, s1, g0, g1, ne, m1, by rw [ex2, ey2] at le; omega⟩
      · exact j1 r hr
    · have e1 : wlk row (q :: t) = none := if_neg f
      rw [e1]
      refine ⟨fun r e => (nomatch e), fun _ o => ?_⟩
      obtain ⟨s0, s1, g0, g1, ne, m1, m2⟩ := o q List.mem_cons_self
      refine if_pos ?_
      apply Decidable.byContradiction
      intro z
      exact f (fit_iff.mpr ⟨ne, s0, s1, g0, g1, m1, by omega⟩)
theorem wlk_aft {row : List Int} {sts : List Stp} (h : ∀ n ∈ row, 0 ≤ n ∧ n ≤ maxN) : aft row (.tup (sts.map encS)) = wlk row sts := by
  obtain ⟨h1, h2⟩ := wlk_ok sts row h
  unfold aft
  rw [sts_enc]
  cases e : wlk row sts with
  | some r =>
    obtain ⟨o, b, _⟩ := h1 r e
    rw [if_pos (stepsB_of o), b]
  | none =>
    by_cases o : stepsB (.tup (sts.map encS)) (row.length : Int) = true
    · rw [if_pos o]
      exact h2 e (stepsB_iff.mp o)
    · rw [if_neg o]
end Ph

namespace Ph
open PySem PySem.Spec PyProof.Rows L2 LamX Pd
def tu (c j x : Int) : Int := max 0 (min c (x - c * j))
def te (a : List Int) (j c : Int) : Int := (a.map (tu c j)).sum
def tr (a : List Int) (m : Nat) (c : Int) : List Int := (List.range m).map fun (j : Nat) => te a (j : Int) c
def low (a : List Int) (s : Int) : Int := (a.map fun x => min x s).sum
theorem lessI_take {a b : List Int} (hl : a.length = b.length) : lessI a b = true ↔ ∀ k, k ≤ a.length → ((dn a).take k).sum ≤ ((dn b).take k).sum := by
  constructor
  · intro h k hk
    cases k with
    | zero => simp
    | succ k =>
      unfold lessI at h
      exact of_decide_eq_true (List.all_eq_true.mp h (_, _) (List.mem_of_getElem? (i := k) (List.getElem?_zip_eq_some.mpr ⟨hd_get (by omega), hd_get (by omega)⟩)))
  · intro h
    unfold lessI
    refine List.all_eq_true.mpr fun q hq => ?_
    obtain ⟨k, hk⟩ := List.mem_iff_getElem?.mp hq
    obtain ⟨h1, h2⟩ := List.getElem?_zip_eq_some.mp hk
    have hka : k < a.length := by
      have := (List.getElem?_eq_some_iff.mp h1).1
      rwa [hd_len] at this
    rw [hd_get hka] at h1
    rw [hd_get (by omega)] at h2
    have e1 := Option.some.inj h1
    have e2 := Option.some.inj h2
    have := h (k + 1) hka
    exact decide_eq_true (by omega)
theorem less_refl (a : List Int) : lessI a a = true := less_same rfl rfl
end Ph

namespace Ph
open PySem PySem.Spec PyProof.Rows L2 LamX Pd
end Ph

namespace Ph
open PySem PySem.Spec PyProof.Rows L2 LamX Pd
end Ph

namespace Ph
open PySem PySem.Spec PyProof.Rows L2 LamX Pd
def inO (l : Nat) (t : Int) (a : List Int) : Prop := a.length = l ∧ a.sum = t ∧ ∀ x ∈ a, 0 ≤ x
end Ph

namespace Ph
open PySem PySem.Spec PyProof.Rows L2 LamX Pd
end Ph

namespace Ph
open PySem PySem.Spec PyProof.Rows L2 LamX Pd
end Ph

namespace Ph
open PySem PySem.Spec PyProof.Rows L2 LamX Pd
end Ph

namespace Ph
open PySem PySem.Spec PyProof.Rows L2 LamX Pd
end Ph

namespace Ph
open PySem PySem.Spec PyProof.Rows L2 LamX Pd
end Ph

namespace Ph
open PySem PySem.Spec PyProof.Rows L2 LamX Pd
end Ph

namespace Ph
open PySem PySem.Spec PyProof.Rows L2 LamX Pd
end Ph

namespace Ph
open PySem PySem.Spec PyProof.Rows L2 LamX Pd
theorem dn_in {l : Nat} {t : Int} {a : List Int} (h : inO l t a) : inO l t (dn a) := ⟨by rw [dn_len, h.1], by rw [sum_perm (dn_perm a), h.2.1], fun x hx => h.2.2 x ((dn_perm a).mem_iff.mp hx)⟩
end Ph

namespace Ph
open PySem PySem.Spec PyProof.Rows L2 LamX Pd
def mv (q : List Int) (i g : Nat) (x : Int) : List Int := (q.set i (x - 1)).set g ((q.set i (x - 1))[g]?.getD 0 + 1)
theorem exs_set : ∀ (l : List Int) (i : Nat) (x y s : Int), l[i]? = some x → exs (l.set i y) s = exs l s - max (x - s) 0 + max (y - s) 0
  | [], i, x, y, s, h => by simp at h
  | a :: l, 0, x, y, s, h => by
    simp at h
    subst h
    rw [List.set_cons_zero, exs_cons, exs_cons]
    omega
  | a :: l, i + 1, x, y, s, h => by
    have := exs_set l i x y s (by simpa using h)
    rw [List.set_cons_succ, exs_cons, exs_cons, this]
    omega
theorem exs_mv {q : List Int} {i g : Nat} {x : Int} (hx : q[i]? = some x) (hg : g < q.length) (s : Int) : ∃ z, (q.set i (x - 1))[g]? = some z ∧ exs (mv q i g x) s = exs q s - max (x - s) 0 + max (x - 1 - s) 0 - max (z - s) 0 + max (z + 1 - s) 0 := by
  have hg2 : g < (q.set i (x - 1)).length := by rw [List.length_set]; exact hg
  refine ⟨_, List.getElem?_eq_getElem hg2, ?_⟩
  unfold mv
  rw [List.getElem?_eq_getElem hg2, exs_set _ _ _ _ s (List.getElem?_eq_getElem hg2), exs_set _ _ _ _ s hx]
  rfl
theorem mv_in {l : Nat} {t : Int} {q : List Int} {i g : Nat} {x : Int} (hq : inO l t q) (hx : q[i]? = some x) (x0 : 0 < x) (hg : g < q.length) : inO l t (mv q i g x) := by
  have hi := (List.getElem?_eq_some_iff.mp hx).1
  obtain ⟨h1, h2, h3⟩ := moved_row (row := q) (s := (i : Int)) (g := (g : Int)) (m := 1) (x := x) hq.2.2 (by omega) (by omega) (by omega) hx (by omega) (by omega)
  exact ⟨by rw [← hq.1]; exact h1, by rw [← hq.2.1]; exact h2, h3⟩
def Nb (a : List Int) : Nat → List Int → Prop
  | 0, r => r = dn a
  | n + 1, r => Nb a n r ∨ ∃ q, Nb a n q ∧ ∃ (i g : Nat) (x : Int), q[i]? = some x ∧ 0 < x ∧ g < q.length ∧ r = dn (mv q i g x)
theorem Nb.low {l : Nat} {t : Int} {a : List Int} (ha : inO l t a) : ∀ {n : Nat} {r : List Int}, Nb a n r → inO l t r ∧ r.Pairwise (fun a b => b ≤ a) ∧ ∀ s, exs a s - n ≤ exs r s
  | 0, r, h => by
    have h' : r = dn a := h
    subst h'
    exact ⟨dn_in ha, dn_sorted a, fun s => by rw [exs_perm (dn_perm a)]; omega⟩
  | n + 1, r, h => by
    rcases h with h | ⟨q, h, i, g, x, hx, x0, hg, rfl⟩
    · obtain ⟨h1, h2, h3⟩ := Nb.low ha h
      exact ⟨h1, h2, fun s => by have := h3 s; omega⟩
    · obtain ⟨h1, h2, h3⟩ := Nb.low ha h
      refine ⟨dn_in (mv_in h1 hx x0 hg), dn_sorted _, fun s => ?_⟩
      obtain ⟨z, _, e⟩ := exs_mv hx hg s
      have := h3 s
      rw [exs_perm (dn_perm _), e]
      omega
theorem exs_ge_mem : ∀ {a : List Int} {x : Int} (s : Int), x ∈ a → x - s ≤ exs a s
  | y :: a, x, s, h => by
    rw [exs_cons]
    rcases List.mem_cons.mp h with rfl | h
    · have := exs_nonneg a s
      omega
    · have := exs_ge_mem s h
      omega
theorem exs_ge_low : ∀ {a : List Int} {z : Int} (s : Int), z ∈ a → a.sum + (s - z) ≤ a.length * s + exs a s
  | y :: a, z, s, h => by
    rw [exs_cons, List.sum_cons, List.length_cons, Int.natCast_add, Int.add_mul]
    rcases List.mem_cons.mp h with rfl | h
    · have := sum_le_exs a s
      simp
      omega
    · have := exs_ge_low s h
      simp
      omega
theorem mv_step {l : Nat} {t : Int} {r : List Int} (hl : 1 ≤ l) (hr : inO l t r) (des : r.Pairwise fun a b => b ≤ a) {x z : Int} (hx : r[0]? = some x) (hz : r[l - 1]? = some z) (h : z + 2 ≤ x) (s : Int) :
    exs (mv r 0 (l - 1) x) s = max (exs r s - 1) (max 0 (t - s * l)) := by
  have hl2 : l ≠ 1 := fun e => by
    subst e
    rw [hx] at hz
    cases hz
    omega
  obtain ⟨z', hz', e⟩ := exs_mv hx (g := l - 1) (by rw [hr.1]; omega) s
  rw [List.getElem?_set_ne (by omega), hz] at hz'
  cases hz'
  have hmx : ∀ y ∈ r, y ≤ x := fun y hy => by
    obtain ⟨k, hk⟩ := List.mem_iff_getElem?.mp hy
    exact desc_get des hx hk (by omega)
  have hmz : ∀ y ∈ r, z ≤ y := fun y hy => by
    obtain ⟨k, hk⟩ := List.mem_iff_getElem?.mp hy
    have hkl := (List.getElem?_eq_some_iff.mp hk).1
    rw [hr.1] at hkl
    exact desc_get des hk hz (by omega)
  have h3 := sum_le_exs r s
  rw [hr.2.1, hr.1, Int.mul_comm] at h3
  rw [e]
  by_cases c1 : x ≤ s
  · have := exs_zero r s fun y hy => Int.le_trans (hmx y hy) c1
    omega
  · by_cases c2 : s ≤ z
    · have := sum_eq_exs r s fun y hy => Int.le_trans c2 (hmz y hy)
      rw [hr.2.1, hr.1, Int.mul_comm] at this
      have := exs_nonneg r s
      omega
    · have h1 := exs_ge_mem s (List.mem_of_getElem? hx)
      have h2 := exs_ge_low s (List.mem_of_getElem? hz)
      rw [hr.2.1, hr.1, Int.mul_comm] at h2
      omega
theorem level_exs {l : Nat} {t : Int} {r : List Int} (hl : 1 ≤ l) (hr : inO l t r) (des : r.Pairwise fun a b => b ≤ a) {x z : Int} (hx : r[0]? = some x) (hz : r[l - 1]? = some z) (h : x ≤ z + 1) (s : Int) : exs r s = max 0 (t - s * l) := by
  have hmx : ∀ y ∈ r, y ≤ x := fun y hy => by
    obtain ⟨k, hk⟩ := List.mem_iff_getElem?.mp hy
    exact desc_get des hx hk (by omega)
  have hmz : ∀ y ∈ r, z ≤ y := fun y hy => by
    obtain ⟨k, hk⟩ := List.mem_iff_getElem?.mp hy
    have hkl := (List.getElem?_eq_some_iff.mp hk).1
    rw [hr.1] at hkl
    exact desc_get des hk hz (by omega)
  by_cases c2 : s ≤ z
  · have := sum_eq_exs r s fun y hy => Int.le_trans c2 (hmz y hy)
    rw [hr.2.1, hr.1, Int.mul_comm] at this
    have := exs_nonneg r s
    omega
  · have := exs_zero r s fun y hy => by have := hmx y hy; omega
    have h3 := sum_le_exs r s
    rw [hr.2.1, hr.1, Int.mul_comm] at h3
    omega
theorem Nb.has {l : Nat} {t : Int} {a : List Int} (hl : 1 ≤ l) (ha : inO l t a) : ∀ n : Nat, ∃ r, Nb a n r ∧ ∀ s, 0 ≤ s → exs r s = max (exs a s - n) (max 0 (t - s * l))
  | 0 => ⟨dn a, rfl, fun s s0 => by
    have h3 := sum_le_exs a s
    rw [ha.2.1, ha.1, Int.mul_comm] at h3
    have := exs_nonneg a s
    rw [exs_perm (dn_perm a)]
    simp
    omega⟩
  | n + 1 => by
    obtain ⟨r, h, e⟩ := Nb.has hl ha n
    obtain ⟨h1, h2, _⟩ := h.low ha
    obtain ⟨x, hx⟩ : ∃ x, r[0]? = some x := ⟨_, List.getElem?_eq_getElem (show 0 < r.length by rw [h1.1]; omega)⟩
    obtain ⟨z, hz⟩ : ∃ z, r[l - 1]? = some z := ⟨_, List.getElem?_eq_getElem (show l - 1 < r.length by rw [h1.1]; omega)⟩
    by_cases c : z + 2 ≤ x
    · have z0 := h1.2.2 z (List.mem_of_getElem? hz)
      refine ⟨dn (mv r 0 (l - 1) x), .inr ⟨r, h, 0, l - 1, x, hx, by omega, by rw [h1.1]; omega, rfl⟩, fun s s0 => ?_⟩
      rw [exs_perm (dn_perm _), mv_step hl h1 h2 hx hz c s, e s s0]
      omega
    · refine ⟨r, .inl h, fun s s0 => ?_⟩
      have h3 := level_exs hl h1 h2 hx hz (by omega) s
      have := e s s0
      omega
end Ph

namespace Ph
open PySem PySem.Spec PyProof.Rows L2 LamX Pd
theorem fit_under {row : List Int} {q : Stp} (f : fitB row q = true) : belowI (mvd row q) row = true ∧ dn (mvd row q) ≠ dn row := by
  obtain ⟨ne, s0, s1, g0, g1, m1, le⟩ := fit_iff.mp f
  obtain ⟨x, ex, ex2, _⟩ := at_mem s0 s1
  obtain ⟨y, ey, ey2, _⟩ := at_mem g0 g1
  rw [ex2, ey2] at le
  have ne2 : q.1.toNat ≠ q.2.1.toNat := fun z => ne (by omega)
  have ey3 : (row.set q.1.toNat (x - q.2.2))[q.2.1.toNat]? = some y := by rw [List.getElem?_set_ne ne2]; exact ey
  have em : mvd row q = (row.set q.1.toNat (x - q.2.2)).set q.2.1.toNat (y + q.2.2) := by
    unfold mvd
    rw [ex2, ey3]
    rfl
  have es : ∀ t, exs (mvd row q) t = exs row t - max (x - t) 0 + max (x - q.2.2 - t) 0 - max (y - t) 0 + max (y + q.2.2 - t) 0 := fun t => by
    rw [em, exs_set _ _ _ _ _ ey3, exs_set _ _ _ _ _ ex]
  have hl : (mvd row q).length = row.length := mvd_len _ _
  have hs : (mvd row q).sum = row.sum := by
    rw [em, sum_set _ _ _ _ ey3, sum_set _ _ _ _ ex]
    omega
  refine ⟨?_, fun z => ?_⟩
  · unfold belowI cmpI
    rw [hl, hs, decide_eq_true rfl, decide_eq_true rfl]
    exact (lessI_exs hl).mpr fun t => by
      rw [es]
      omega
  · have h := (lessI_exs hl.symm).mp (less_same hl.symm z.symm) (x - 1)
    rw [es] at h
    omega
def rowOf (n : Nat) (g : Nat → Int) : List Int := (List.range n).map g
theorem rowOf_len (n : Nat) (g : Nat → Int) : (rowOf n g).length = n := by
  unfold rowOf
  rw [List.length_map, List.length_range]
theorem rowOf_at {n i : Nat} (g : Nat → Int) (h : i < n) : (rowOf n g)[i]? = some (g i) := by
  unfold rowOf
  rw [List.getElem?_map, List.getElem?_range h]
  rfl
theorem rowOf_ext {n : Nat} {g h : Nat → Int} (e : ∀ i, i < n → g i = h i) : rowOf n g = rowOf n h := List.map_congr_left fun i hi => e i (List.mem_range.mp hi)
theorem rowOf_self (a : List Int) : rowOf a.length (fun i => a.getD i 0) = a := by
  refine List.ext_getElem? fun i => ?_
  by_cases h : i < a.length
  · rw [rowOf_at _ h, List.getD_eq_getElem?_getD, List.getElem?_eq_getElem h]
    rfl
  · rw [List.getElem?_eq_none (by rw [rowOf_len]; omega), List.getElem?_eq_none (by omega)]
def upd2 (g : Nat → Int) (i j : Nat) (m : Int) : Nat → Int := fun k => if k = j then g j + m else if k = i then g i - m else g k
theorem set_rowOf {n i : Nat} (g : Nat → Int) (v : Int) : (rowOf n g).set i v = rowOf n fun k => if k = i then v else g k := by
  refine List.ext_getElem? fun k => ?_
  by_cases h : k < n
  · rw [rowOf_at _ h]
    by_cases e : i = k
    · subst e
      rw [List.getElem?_set_self (by rw [rowOf_len]; exact h), if_pos rfl]
    · rw [List.getElem?_set_ne e, rowOf_at _ h, if_neg (fun z => e z.symm)]
  · rw [List.getElem?_eq_none (by rw [List.length_set, rowOf_len]; omega), List.getElem?_eq_none (by rw [rowOf_len]; omega)]
theorem step_map {n i j : Nat} {g : Nat → Int} {m : Int} (hi : i < n) (hj : j < n) (ne : i ≠ j) (m1 : 1 ≤ m) (le : g j + 2 * m ≤ g i) (t : List Stp) : wlk (rowOf n g) (((i : Int), (j : Int), m) :: t) = wlk (rowOf n (upd2 g i j m)) t := by
  have e1 : (rowOf n g)[((i : Int), (j : Int), m).1.toNat]?.getD 0 = g i := by
    show (rowOf n g)[(i : Int).toNat]?.getD 0 = _
    rw [show (i : Int).toNat = i by omega, rowOf_at _ hi]
    rfl
  have e2 : (rowOf n g)[((i : Int), (j : Int), m).2.1.toNat]?.getD 0 = g j := by
    show (rowOf n g)[(j : Int).toNat]?.getD 0 = _
    rw [show (j : Int).toNat = j by omega, rowOf_at _ hj]
    rfl
  have f : fitB (rowOf n g) ((i : Int), (j : Int), m) = true := fit_iff.mpr ⟨fun z => ne (by have z : (i : Int) = j := z; omega), by show (0 : Int) ≤ i; omega, by rw [rowOf_len]; show (i : Int) < n; omega, by show (0 : Int) ≤ j; omega, by rw [rowOf_len]; show (j : Int) < n; omega, m1, by rw [e1, e2]; exact le⟩
  have em : mvd (rowOf n g) ((i : Int), (j : Int), m) = rowOf n (upd2 g i j m) := by
    unfold mvd
    rw [e1]
    show ((rowOf n g).set (i : Int).toNat (g i - m)).set (j : Int).toNat (((rowOf n g).set (i : Int).toNat (g i - m))[(j : Int).toNat]?.getD 0 + m) = _
    rw [show (i : Int).toNat = i by omega, show (j : Int).toNat = j by omega, set_rowOf, rowOf_at _ hj, set_rowOf]
    refine rowOf_ext fun k hk => ?_
    unfold upd2
    show (if k = j then (if j = i then g i - m else g j) + m else if k = i then g i - m else g k) = _
    rw [if_neg (show ¬ j = i from fun z => ne z.symm)]
  show (if fitB (rowOf n g) ((i : Int), (j : Int), m) = true then _ else _) = _
  rw [if_pos f, em]
theorem wlk_append : ∀ (s t : List Stp) (r : List Int), wlk r (s ++ t) = (wlk r s).bind fun r2 => wlk r2 t
  | [], t, r => rfl
  | q :: s, t, r => by
    show (if fitB r q = true then _ else _) = Option.bind (if fitB r q = true then _ else _) _
    by_cases f : fitB r q = true
    · rw [if_pos f, if_pos f]
      exact wlk_append s t _
    · rw [if_neg f, if_neg f]
      rfl
abbrev Stk := List (Nat × Int)
def tot (st : Stk) : Int := (st.map (·.2)).sum
theorem tot_cons (p : Nat × Int) (st : Stk) : tot (p :: st) = p.2 + tot st := rfl
def un (f : List Stp) : Int := (f.map fun q => q.2.2).sum
theorem un_app (f g : List Stp) : un (f ++ g) = un f + un g := by
  unfold un
  rw [List.map_append, List.sum_append]
def fill (j : Nat) : Stk → Int → List Stp × Stk
  | [], _ => ([], [])
  | (i, u) :: st, m => if m ≤ 0 then ([], (i, u) :: st) else if m < u then ([((i : Int), (j : Int), m)], (i, u - m) :: st) else (((i : Int), (j : Int), u) :: (fill j st (m - u)).1, (fill j st (m - u)).2)
structure Wt (n : Nat) (b g : Nat → Int) (st : Stk) : Prop where
  nd : (st.map (·.1)).Nodup
  lt : ∀ p ∈ st, p.1 < n
  ps : ∀ p ∈ st, 0 < p.2
  at_ : ∀ p ∈ st, g p.1 = b p.1 + p.2
theorem fill_ok {n : Nat} {b : Nat → Int} {j : Nat} (hj : j < n) : ∀ (st : Stk) (m : Int) (g : Nat → Int), 0 ≤ m → m ≤ tot st → Wt n b g st → (∀ p ∈ st, p.1 ≠ j ∧ b j ≤ b p.1) → g j = b j - m →
    ∃ g', wlk (rowOf n g) (fill j st m).1 = some (rowOf n g') ∧ g' j = b j ∧ Wt n b g' (fill j st m).2 ∧ (∀ p ∈ (fill j st m).2, p.1 ∈ st.map (·.1)) ∧ (∀ k, k ≠ j → k ∉ st.map (·.1) → g' k = g k) ∧ (∀ k ∈ st.map (·.1), k ∉ (fill j st m).2.map (·.1) → g' k = b k) ∧
      tot (fill j st m).2 = tot st - m ∧ un (fill j st m).1 = m ∧ (fill j st m).1.length + (fill j st m).2.length ≤ st.length + 1 ∧ ((fill j st m).2 = [] → (fill j st m).1.length ≤ st.length)
  | [], m, g, m0, mt, w, hb, gj => by
    have m0 : m = 0 := by
      have : tot [] = 0 := rfl
      omega
    subst m0
    exact ⟨g, rfl, by rw [gj]; omega, w, (fun p hp => nomatch hp), fun _ _ _ => rfl, (fun k hk => nomatch hk), by rfl, rfl, by show 0 + 0 ≤ 0 + 1; omega, fun _ => Nat.le_refl _⟩
  | (i, u) :: st, m, g, m0, mt, w, hb, gj => by
    have u0 : 0 < u := w.ps _ List.mem_cons_self
    have hi : i < n := w.lt _ List.mem_cons_self
    have gi : g i = b i + u := w.at_ _ List.mem_cons_self
    obtain ⟨nj, bj⟩ : i ≠ j ∧ b j ≤ b i := hb _ List.mem_cons_self
    have ndi : i ∉ st.map (·.1) := (List.nodup_cons.mp w.nd).1
    by_cases c1 : m ≤ 0
    · have m0 : m = 0 := by omega
      subst m0
      have e : fill j ((i, u) :: st) 0 = ([], (i, u) :: st) := if_pos (Int.le_refl _)
      rw [e]
      exact ⟨g, rfl, by rw [gj]; omega, w, (fun p hp => List.mem_map.mpr ⟨p, hp, rfl⟩), fun _ _ _ => rfl, (fun k hk z => absurd hk z), (Int.sub_zero _).symm, rfl, by show 0 + (st.length + 1) ≤ st.length + 1 + 1; omega, fun z => nomatch z⟩
    · by_cases c2 : m < u
      · have e : fill j ((i, u) :: st) m = ([((i : Int), (j : Int), m)], (i, u - m) :: st) := by
          show (if m ≤ 0 then _ else if m < u then _ else _) = _
          rw [if_neg c1, if_pos c2]
        rw [e]
        have far : ∀ p ∈ st, p.1 ≠ i := fun p hp z => ndi (List.mem_map.mpr ⟨p, hp, z⟩)
        refine ⟨upd2 g i j m, ?_, ?_, ⟨w.nd, fun p hp => ?_, fun p hp => ?_, fun p hp => ?_⟩, fun p hp => ?_, fun k kj ks => ?_, fun k hk z => ?_, ?_, ?_, ?_, fun z => nomatch z⟩
        · rw [step_map hi hj nj (by omega) (by omega)]
          rfl
        · unfold upd2
          rw [if_pos rfl]
          omega
        · rcases List.mem_cons.mp hp with rfl | hp
          · exact hi
          · exact w.lt _ (List.mem_cons_of_mem _ hp)
        · rcases List.mem_cons.mp hp with rfl | hp
          · show 0 < u - m
            omega
          · exact w.ps _ (List.mem_cons_of_mem _ hp)
        · rcases List.mem_cons.mp hp with rfl | hp
          · show upd2 g i j m i = b i + (u - m)
            unfold upd2
            rw [if_neg nj, if_pos rfl]
            omega
          · unfold upd2
            rw [if_neg (hb p (List.mem_cons_of_mem _ hp)).1, if_neg (far p hp)]
            exact w.at_ _ (List.mem_cons_of_mem _ hp)
        · rcases List.mem_cons.mp hp with rfl | hp
          · exact List.mem_cons_self
          · exact List.mem_cons_of_mem _ (List.mem_map.mpr ⟨p, hp, rfl⟩)
        · unfold upd2
          rw [if_neg kj, if_neg (fun z => ks (by rw [z]; exact List.mem_cons_self))]
        · exact absurd hk z
        · rw [tot_cons, tot_cons]
          show u - m + tot st = u + tot st - m
          omega
        · show m + 0 = m
          omega
        · show 1 + (st.length + 1) ≤ st.length + 1 + 1
          omega
      · have e : fill j ((i, u) :: st) m = (((i : Int), (j : Int), u) :: (fill j st (m - u)).1, (fill j st (m - u)).2) := by
          show (if m ≤ 0 then _ else if m < u then _ else _) = _
          rw [if_neg c1, if_neg c2]
        rw [e]
        have far : ∀ p ∈ st, p.1 ≠ i := fun p hp z => ndi (List.mem_map.mpr ⟨p, hp, z⟩)
        rw [tot_cons] at mt
        have mt : m ≤ u + tot st := mt
        have w1 : Wt n b (upd2 g i j u) st := ⟨(List.nodup_cons.mp w.nd).2, fun p hp => w.lt _ (List.mem_cons_of_mem _ hp), fun p hp => w.ps _ (List.mem_cons_of_mem _ hp), fun p hp => by
          unfold upd2
          rw [if_neg (hb p (List.mem_cons_of_mem _ hp)).1, if_neg (far p hp)]
          exact w.at_ _ (List.mem_cons_of_mem _ hp)⟩
        obtain ⟨g', h1, h2, h3, h4, h5, h6, h7, h8, h9, h10⟩ := fill_ok hj st (m - u) (upd2 g i j u) (by omega) (by omega) w1 (fun p hp => hb p (List.mem_cons_of_mem _ hp)) (by
          unfold upd2
          rw [if_pos rfl]
          omega)
        refine ⟨g', ?_, h2, h3, fun p hp => List.mem_cons_of_mem _ (h4 p hp), fun k kj ks => ?_, fun k hk z => ?_, ?_, ?_, ?_, fun z => ?_⟩
        · show wlk (rowOf n g) (((i : Int), (j : Int), u) :: (fill j st (m - u)).1) = _
          rw [step_map hi hj nj (by omega) (by omega)]
          exact h1
        · rw [h5 k kj (fun z => ks (List.mem_cons_of_mem _ z))]
          unfold upd2
          rw [if_neg kj, if_neg (fun z => ks (by rw [z]; exact List.mem_cons_self))]
        · rcases List.mem_cons.mp hk with e1 | hk
          · have e1 : k = i := e1
            rw [e1, h5 i nj ndi]
            unfold upd2
            show (if i = j then _ else if i = i then g i - u else _) = b i
            rw [if_neg nj, if_pos rfl]
            omega
          · exact h6 k hk z
        · rw [tot_cons]
          show tot (fill j st (m - u)).2 = u + tot st - m
          omega
        · show u + un (fill j st (m - u)).1 = m
          omega
        · show (fill j st (m - u)).1.length + 1 + (fill j st (m - u)).2.length ≤ st.length + 1 + 1
          omega
        · have := h10 z
          show (fill j st (m - u)).1.length + 1 ≤ st.length + 1
          omega
def one (a b : Nat → Int) (s : List Stp × Stk) (i : Nat) : List Stp × Stk := if b i - a i < 0 then (s.1, (i, -(b i - a i)) :: s.2) else (s.1 ++ (fill i s.2 (b i - a i)).1, (fill i s.2 (b i - a i)).2)
def dif (a b : Nat → Int) (P : List Nat) : Int := (P.map fun i => a i - b i).sum
def dow (a b : Nat → Int) (P : List Nat) : Int := (P.map fun i => max (a i - b i) 0).sum
def cnt (a b : Nat → Int) (P : List Nat) : Nat := (P.filter fun i => decide (a i ≠ b i)).length
theorem dif_snoc (a b : Nat → Int) (P : List Nat) (i : Nat) : dif a b (P ++ [i]) = dif a b P + (a i - b i) := by
  unfold dif
  rw [List.map_append, List.sum_append]
  show _ + (a i - b i + 0) = _
  omega
theorem dow_snoc (a b : Nat → Int) (P : List Nat) (i : Nat) : dow a b (P ++ [i]) = dow a b P + max (a i - b i) 0 := by
  unfold dow
  rw [List.map_append, List.sum_append]
  show _ + (max (a i - b i) 0 + 0) = _
  omega
theorem cnt_snoc (a b : Nat → Int) (P : List Nat) (i : Nat) : cnt a b (P ++ [i]) = cnt a b P + if a i ≠ b i then 1 else 0 := by
  unfold cnt
  rw [List.filter_append, List.length_append]
  by_cases h : a i = b i
  · rw [if_neg (fun z => z h), List.filter_cons_of_neg (by simp [h])]
    rfl
  · rw [if_pos h, List.filter_cons_of_pos (by simp [h])]
    rfl
structure Rn (n : Nat) (a b : Nat → Int) (P : List Nat) (s : List Stp × Stk) (g : Nat → Int) : Prop where
  wk : wlk (rowOf n a) s.1 = some (rowOf n g)
  wt : Wt n b g s.2
  sub : ∀ k ∈ s.2.map (·.1), k ∈ P
  out : ∀ k, k ∉ P → g k = a k
  fin : ∀ k ∈ P, k ∉ s.2.map (·.1) → g k = b k
  tt : tot s.2 = dif a b P
  uu : un s.1 + tot s.2 = dow a b P
  few : s.1.length + s.2.length ≤ cnt a b P ∧ (s.2 = [] → cnt a b P ≠ 0 → s.1.length + 1 ≤ cnt a b P)
theorem Rn.one {n : Nat} {a b : Nat → Int} {P : List Nat} {s : List Stp × Stk} {g : Nat → Int} (r : Rn n a b P s g) {i : Nat} (hi : i < n) (hP : i ∉ P) (hb : ∀ k ∈ P, b i ≤ b k) (pre : 0 ≤ dif a b (P ++ [i])) : ∃ g', Rn n a b (P ++ [i]) (one a b s i) g' := by
  rw [dif_snoc] at pre
  have oi : i ∉ s.2.map (·.1) := fun z => hP (r.sub i z)
  by_cases c : b i - a i < 0
  · have e : Ph.one a b s i = (s.1, (i, -(b i - a i)) :: s.2) := if_pos c
    rw [e]
    have gi : g i = a i := r.out i hP
    refine ⟨g, r.wk, ⟨List.nodup_cons.mpr ⟨oi, r.wt.nd⟩, fun p hp => ?_, fun p hp => ?_, fun p hp => ?_⟩, fun k hk => ?_, fun k hk => r.out k fun z => hk (List.mem_append_left _ z), fun k hk z => ?_, ?_, ?_, ?_, fun z => nomatch z⟩
    · rcases List.mem_cons.mp hp with rfl | hp
      · exact hi
      · exact r.wt.lt p hp
    · rcases List.mem_cons.mp hp with rfl | hp
      · show 0 < -(b i - a i)
        omega
      · exact r.wt.ps p hp
    · rcases List.mem_cons.mp hp with rfl | hp
      · show g i = b i + -(b i - a i)
        omega
      · exact r.wt.at_ p hp
    · rcases List.mem_cons.mp hk with rfl | hk
      · exact List.mem_append_right _ List.mem_cons_self
      · exact List.mem_append_left _ (r.sub k hk)
    · rcases List.mem_append.mp hk with hk | hk
      · exact r.fin k hk fun w => z (List.mem_cons_of_mem _ w)
      · rw [List.mem_singleton.mp hk] at z
        exact absurd List.mem_cons_self z
    · rw [tot_cons, dif_snoc]
      show -(b i - a i) + tot s.2 = _
      rw [r.tt]
      omega
    · rw [tot_cons, dow_snoc]
      have := r.uu
      show un s.1 + (-(b i - a i) + tot s.2) = _
      omega
    · rw [cnt_snoc, if_pos (show a i ≠ b i by omega)]
      have := r.few.1
      show s.1.length + (s.2.length + 1) ≤ _
      omega
  · have e : Ph.one a b s i = (s.1 ++ (fill i s.2 (b i - a i)).1, (fill i s.2 (b i - a i)).2) := if_neg c
    rw [e]
    have gi : g i = b i - (b i - a i) := by
      rw [r.out i hP]
      omega
    obtain ⟨g', h1, h2, h3, h4, h5, h6, h7, h8, h9, h10⟩ := fill_ok hi s.2 (b i - a i) g (by omega) (by rw [r.tt]; omega) r.wt (fun p hp => ⟨fun z => oi (List.mem_map.mpr ⟨p, hp, z⟩), hb _ (r.sub _ (List.mem_map.mpr ⟨p, hp, rfl⟩))⟩) gi
    have sb : ∀ k ∈ (fill i s.2 (b i - a i)).2.map (·.1), k ∈ s.2.map (·.1) := fun k hk => by
      obtain ⟨p, hp, rfl⟩ := List.mem_map.mp hk
      exact h4 p hp
    refine ⟨g', ?_, h3, fun k hk => List.mem_append_left _ (r.sub k (sb k hk)), fun k hk => ?_, fun k hk z => ?_, ?_, ?_, ?_, fun z nz => ?_⟩
    · show wlk (rowOf n a) (s.1 ++ _) = _
      rw [wlk_append, r.wk]
      exact h1
    · rw [h5 k (fun z => hk (by rw [z]; exact List.mem_append_right _ List.mem_cons_self)) fun z => hk (List.mem_append_left _ (r.sub k z))]
      exact r.out k fun z => hk (List.mem_append_left _ z)
    · by_cases ki : k = i
      · rw [ki]
        exact h2
      · rcases List.mem_append.mp hk with hk | hk
        · by_cases ks : k ∈ s.2.map (·.1)
          · exact h6 k ks z
          · rw [h5 k ki ks]
            exact r.fin k hk ks
        · exact absurd (List.mem_singleton.mp hk) ki
    · show tot (fill i s.2 (b i - a i)).2 = _
      rw [dif_snoc, h7, r.tt]
      omega
    · show un (s.1 ++ _) + tot (fill i s.2 (b i - a i)).2 = _
      rw [un_app, dow_snoc]
      have := r.uu
      omega
    · show (s.1 ++ _).length + (fill i s.2 (b i - a i)).2.length ≤ _
      rw [List.length_append, cnt_snoc]
      have := r.few.1
      by_cases ne : a i = b i
      · have e0 : fill i s.2 (b i - a i) = ([], s.2) := by
          rw [show b i - a i = 0 by omega]
          cases s.2 with
          | nil => rfl
          | cons p st =>
            obtain ⟨x, y⟩ := p
            exact if_pos (Int.le_refl _)
        rw [e0, if_neg (fun z => z ne)]
        show s.1.length + 0 + s.2.length ≤ _
        omega
      · rw [if_pos ne]
        omega
    · have z : (fill i s.2 (b i - a i)).2 = [] := z
      show (s.1 ++ _).length + 1 ≤ _
      rw [List.length_append, cnt_snoc]
      by_cases ne : a i = b i
      · have e0 : fill i s.2 (b i - a i) = ([], s.2) := by
          rw [show b i - a i = 0 by omega]
          cases s.2 with
          | nil => rfl
          | cons p st =>
            obtain ⟨x, y⟩ := p
            exact if_pos (Int.le_refl _)
        rw [e0] at z ⊢
        rw [if_neg (fun z => z ne)]
        have nz : cnt a b P ≠ 0 := fun w => nz (by rw [cnt_snoc, if_neg (fun z => z ne), w])
        have := r.few.2 z nz
        show s.1.length + 0 + 1 ≤ _
        omega
      · rw [if_pos ne]
        have := h10 z
        have := r.few.1
        omega
def run (a b : Nat → Int) (L : List Nat) : List Stp × Stk := L.foldl (one a b) ([], [])
theorem run_ok {n : Nat} {a b : Nat → Int} : ∀ (R P : List Nat) (s : List Stp × Stk) (g : Nat → Int), Rn n a b P s g → (P ++ R).Nodup → (∀ i ∈ R, i < n) → (P ++ R).Pairwise (fun i j => b j ≤ b i) → (∀ k, k ≤ R.length → 0 ≤ dif a b (P ++ R.take k)) → ∃ g', Rn n a b (P ++ R) (R.foldl (one a b) s) g'
  | [], P, s, g, r, _, _, _, _ => ⟨g, by rw [List.append_nil]; exact r⟩
  | i :: R, P, s, g, r, nd, lt, pw, pre => by
    have hP : i ∉ P := fun z => by
      have := (List.nodup_append.mp nd).2.2 i z i List.mem_cons_self
      exact this rfl
    obtain ⟨g1, r1⟩ := r.one (lt i List.mem_cons_self) hP (fun k hk => (List.pairwise_append.mp pw).2.2 k hk i List.mem_cons_self) (pre 1 (by rw [List.length_cons]; omega))
    have ea : P ++ i :: R = (P ++ [i]) ++ R := by rw [List.append_assoc]; rfl
    rw [ea] at nd pw ⊢
    refine run_ok R (P ++ [i]) _ g1 r1 nd (fun k hk => lt k (List.mem_cons_of_mem _ hk)) pw fun k hk => ?_
    have := pre (k + 1) (by rw [List.length_cons]; omega)
    rw [List.take_succ_cons] at this
    rw [List.append_assoc]
    exact this
end Ph

namespace Ph
open PySem PySem.Spec PyProof.Rows L2 LamX Pd
def le3 (a b : List Int) (i j : Nat) : Bool := decide (a.getD j 0 < a.getD i 0 ∨ (a.getD i 0 = a.getD j 0 ∧ (b.getD j 0 < b.getD i 0 ∨ (b.getD i 0 = b.getD j 0 ∧ i ≤ j))))
theorem leK_le3 (rows : Nat → List Int) (k l : Nat) : leK rows [.neg k, .neg l, .self] = le3 (rows k) (rows l) := by
  funext i j
  show (!PySem.W.rowLt ([-((rows k).getD j 0), -((rows l).getD j 0), (j : Int)].map PyData.int) ([-((rows k).getD i 0), -((rows l).getD i 0), (i : Int)].map PyData.int)) = _
  rw [PySem.W.dataLt_ints]
  unfold le3
  rw [← decide_not]
  refine decide_eq_decide.mpr ?_
  simp only [List.cons_lt_cons_iff, List.not_lt_nil, and_false, or_false]
  omega
def ord (a b : List Int) : List Nat := (List.range a.length).mergeSort (le3 a b)
theorem ord_perm (a b : List Int) : (ord a b).Perm (List.range a.length) := List.mergeSort_perm _ _
theorem ord_nd (a b : List Int) : (ord a b).Nodup := (ord_perm a b).nodup_iff.mpr List.nodup_range
theorem ord_mem {a b : List Int} {i : Nat} : i ∈ ord a b ↔ i < a.length := by rw [(ord_perm a b).mem_iff, List.mem_range]
theorem ord_len (a b : List Int) : (ord a b).length = a.length := by rw [(ord_perm a b).length_eq, List.length_range]
theorem ord_sorted (a b : List Int) : (ord a b).Pairwise fun i j => a.getD j 0 < a.getD i 0 ∨ (a.getD i 0 = a.getD j 0 ∧ b.getD j 0 ≤ b.getD i 0) := by
  have h := List.pairwise_mergeSort (le := le3 a b) (fun i j k h1 h2 => by
    unfold le3 at *
    have h1 := of_decide_eq_true h1
    have h2 := of_decide_eq_true h2
    exact decide_eq_true (by omega)) (fun i j => by
    unfold le3
    rw [← Bool.decide_or]
    exact decide_eq_true (by omega)) (List.range a.length)
  refine h.imp fun {i j} h => ?_
  have := of_decide_eq_true (show decide _ = true from h)
  omega
section
variable {a b : List Int}
theorem ord_falls (hl : a.length = b.length) (al : alk (a.zip b) = true) : (ord a b).Pairwise fun i j => a.getD j 0 ≤ a.getD i 0 ∧ b.getD j 0 ≤ b.getD i 0 := by
  refine (ord_sorted a b).imp_of_mem fun {i j} hi hj h => ?_
  have hi := ord_mem.mp hi
  have hj := ord_mem.mp hj
  have at_ : ∀ {k : Nat}, k < a.length → (a.getD k 0, b.getD k 0) ∈ a.zip b := fun {k} hk => by
    have e : (a.zip b)[k]? = some (a.getD k 0, b.getD k 0) := by
      rw [List.getElem?_zip_eq_some]
      exact ⟨by rw [List.getD_eq_getElem?_getD, List.getElem?_eq_getElem hk]; rfl, by
        show b[k]? = some (b.getD k 0)
        rw [List.getD_eq_getElem?_getD, List.getElem?_eq_getElem (show k < b.length by omega)]
        rfl⟩
    exact List.mem_of_getElem? e
  rcases h with h | h
  · have := (alk_iff _).mp al _ (at_ hi) _ (at_ hj) h
    have this : ¬ b.getD i 0 < b.getD j 0 := this
    omega
  · omega
theorem map_range (a : List Int) : (List.range a.length).map (fun i => a.getD i 0) = a := rowOf_self a
theorem ord_a (hl : a.length = b.length) (al : alk (a.zip b) = true) : (ord a b).map (fun i => a.getD i 0) = dn a := by
  refine (dn_of ?_ ?_).symm
  · have := (ord_perm a b).map fun i => a.getD i 0
    rwa [map_range] at this
  · rw [List.pairwise_map]
    exact (ord_falls hl al).imp fun h => h.1
theorem ord_b (hl : a.length = b.length) (al : alk (a.zip b) = true) : (ord a b).map (fun i => b.getD i 0) = dn b := by
  refine (dn_of ?_ ?_).symm
  · have := (ord_perm a b).map fun i => b.getD i 0
    rw [hl] at this
    rwa [map_range] at this
  · rw [List.pairwise_map]
    exact (ord_falls hl al).imp fun h => h.2
theorem dif_maps (x y : Nat → Int) : ∀ L : List Nat, dif x y L = (L.map x).sum - (L.map y).sum
  | [] => rfl
  | i :: L => by
    have := dif_maps x y L
    unfold dif at *
    rw [List.map_cons, List.sum_cons, List.map_cons, List.sum_cons, List.map_cons, List.sum_cons, this]
    omega
def absI (i : Int) : Int := if i < 0 then -i else i
def gap (a b : List Int) : Int := (((dn a).zip (dn b)).map fun p => absI (p.1 - p.2)).sum
def half (a b : List Int) : Int := gap a b / 2
theorem abs_sum (x y : Nat → Int) : ∀ L : List Nat, (L.map fun i => absI (x i - y i)).sum = 2 * dow x y L - dif x y L
  | [] => rfl
  | i :: L => by
    have := abs_sum x y L
    unfold dif dow at *
    rw [List.map_cons, List.sum_cons, List.map_cons, List.sum_cons, List.map_cons, List.sum_cons, this]
    unfold absI
    split <;> omega
theorem zmap (x y : Nat → Int) : ∀ L : List Nat, ((L.map x).zip (L.map y)).map (fun p => absI (p.1 - p.2)) = L.map fun i => absI (x i - y i)
  | [] => rfl
  | i :: L => congrArg (absI (x i - y i) :: ·) (zmap x y L)
theorem tot_pos : ∀ st : Stk, (∀ p ∈ st, 0 < p.2) → tot st = 0 → st = []
  | [], _, _ => rfl
  | p :: st, h, e => by
    have h0 : 0 ≤ tot st := by
      have : ∀ st : Stk, (∀ p ∈ st, 0 < p.2) → 0 ≤ tot st := fun st => by
        induction st with
        | nil => exact fun _ => Int.le_refl _
        | cons p st ih =>
          intro h
          rw [tot_cons]
          have := h p List.mem_cons_self
          have := ih fun q hq => h q (List.mem_cons_of_mem _ hq)
          omega
      exact this st fun q hq => h q (List.mem_cons_of_mem _ hq)
    rw [tot_cons] at e
    have := h p List.mem_cons_self
    omega
theorem road_ok (hl : a.length = b.length) (ne : a ≠ []) (hb : belowI b a = true) (al : alk (a.zip b) = true) :
    ∃ f, run (fun i => a.getD i 0) (fun i => b.getD i 0) (ord a b) = (f, []) ∧ wlk a f = some b ∧ f.length + 1 ≤ a.length ∧ un f = half a b := by
  unfold belowI cmpI at hb
  simp only [Bool.and_eq_true, decide_eq_true_eq] at hb
  obtain ⟨⟨_, hs⟩, hless⟩ := hb
  have pre : ∀ k, k ≤ (ord a b).length → 0 ≤ dif (fun i => a.getD i 0) (fun i => b.getD i 0) ([] ++ (ord a b).take k) := fun k hk => by
    rw [List.nil_append, dif_maps, List.map_take, List.map_take, ord_a hl al, ord_b hl al]
    have := (lessI_take hl.symm).mp hless k (by rw [ord_len] at hk; omega)
    omega
  have r0 : Rn a.length (fun i => a.getD i 0) (fun i => b.getD i 0) [] ([], []) (fun i => a.getD i 0) := ⟨rfl, ⟨List.nodup_nil, (fun p hp => nomatch hp), (fun p hp => nomatch hp), fun p hp => nomatch hp⟩, (fun k hk => nomatch hk), fun _ _ => rfl, (fun k hk => nomatch hk), rfl, rfl, Nat.le_refl _, fun _ z => absurd rfl z⟩
  obtain ⟨g, r⟩ := run_ok (ord a b) [] _ _ r0 (by rw [List.nil_append]; exact ord_nd a b) (fun i hi => ord_mem.mp hi) (by rw [List.nil_append]; exact (ord_falls hl al).imp fun h => h.2) pre
  rw [List.nil_append] at r
  have d0 : dif (fun i => a.getD i 0) (fun i => b.getD i 0) (ord a b) = 0 := by
    rw [dif_maps, ord_a hl al, ord_b hl al, sum_perm (dn_perm a), sum_perm (dn_perm b)]
    omega
  have s0 := tot_pos _ r.wt.ps (by rw [r.tt, d0])
  obtain ⟨f, st, e⟩ : ∃ f st, (ord a b).foldl (one (fun i => a.getD i 0) (fun i => b.getD i 0)) ([], []) = (f, st) := ⟨_, _, rfl⟩
  rw [e] at r s0
  have s0 : st = [] := s0
  subst s0
  have hn : 1 ≤ a.length := by
    cases a with
    | nil => exact absurd rfl ne
    | cons x l => rw [List.length_cons]; omega
  refine ⟨f, e, ?_, ?_, ?_⟩
  · have w := r.wk
    rw [rowOf_self] at w
    rw [show wlk a f = _ from w]
    have : rowOf a.length g = b := by
      rw [← rowOf_self b, ← hl]
      exact rowOf_ext fun i hi => r.fin i (ord_mem.mpr hi) fun z => nomatch z
    rw [this]
  · have c : cnt (fun i => a.getD i 0) (fun i => b.getD i 0) (ord a b) ≤ a.length := by
      unfold cnt
      rw [← ord_len a b]
      exact List.length_filter_le _ _
    have h1 := r.few.1
    have h1 : f.length + 0 ≤ _ := h1
    by_cases z : cnt (fun i => a.getD i 0) (fun i => b.getD i 0) (ord a b) = 0
    · omega
    · have := r.few.2 rfl z
      have this : f.length + 1 ≤ _ := this
      omega
  · have u := r.uu
    have u : un f + 0 = dow _ _ _ := u
    have key := abs_sum (fun i => a.getD i 0) (fun i => b.getD i 0) (ord a b)
    rw [d0] at key
    have g : gap a b = 2 * dow (fun i => a.getD i 0) (fun i => b.getD i 0) (ord a b) - 0 := by
      rw [← key]
      unfold gap
      rw [← ord_a hl al, ← ord_b hl al, zmap]
    unfold half
    rw [g, ← u]
    omega
end
end Ph

namespace Pd
open PySem PySem.Spec PyProof.Rows L2 LamX
section
variable {X : Cx} {T : List (Addr × Str)} {E : XK} {k : Nat}
end
section
variable {P : Program} {w : World} {K : PySem.W.Frag} {mg : Str → Option Value} {base : Heap} {T : List (Addr × Str)}
end
end Pd

namespace Pd
open PySem PySem.Spec PyProof.Rows L2 LamX
section
variable {X : Cx} {T : List (Addr × Str)} {E : XK} {k : Nat}
end
end Pd

namespace Pd
open PySem PySem.Spec PyProof.Rows L2 LamX
section
variable {X : Cx} {T : List (Addr × Str)} {E : XK} {k : Nat} {tg : Expr}
end
end Pd

namespace Zs
open PySem PySem.Spec PyProof.Rows L2
abbrev noneYet (w : World) : Obj := { cls := .type "set", dict := none, data := .set #[] 0 (.fresh 0 0 (!w.params.followText "set-order")) }
section
variable {P : Program} {w : World} {A : Around} {E : Value → Shared → Prop} {s : Shared}
theorem set_call {x : Value} {Q : Value → Shared → Prop} {R : Shared → Prop}
    (fill : wpAny (model P w) A.in1.in1 (Builtin.«set.__init__» ⟨[.ref s.heap.objs.size, x], []⟩) (fun f s' => f = .done (.ret .none) ∧ R s') E { s with heap := s.heap.push (noneYet w) })
    (h : ∀ s', R s' → Q (.ref s.heap.objs.size) s') : wpAny (model P w) A (call (.type "set") [x]) Q E s := by
  have made := F.called_set
  obtain ⟨c, tl, hmro⟩ := made.mro
  have m1 := made.made
  have m2 := made.sub
  have m3 := made.notType
  have m4 := made.canCreate
  have m5 := F.typeCall_set_1 x
  apply wpAny_call
  apply codeAny_of_tree
  show wpAny _ _ (callAny (.type "set") _) _ _ _
  apply wpAny_pure
  constructor
  · exact Code.quiet_builtin _ (by decide +kernel)
  apply codeAny_builtin F.entry_type_call
  rw [Around.under_plain (weight_type_call_type "set" [x] []) rfl]
  repeat (any_goals (first | assumption | wp_step))
  have new := code_set_led1 (P := P) (w := w) (A := A.in1) (E := E) (s := s) x (Q₁ := fun v s₁ => v = .ref s.heap.objs.size ∧ s₁ = { s with heap := s.heap.push (noneYet w) }) ⟨rfl, rfl⟩
  apply codeAny_mono new
  intro r s₁ hr
  rcases r with _ | fl
  · exact hr
  rcases fl with _ | v <;> try exact hr.elim
  obtain ⟨rfl, rfl⟩ := hr
  have at_ : (s.heap.push (noneYet w)).get? s.heap.objs.size = some (noneYet w) := Heap.get?_push_size _ rfl
  have ty : Shared.TypeIs { s with heap := s.heap.push (noneYet w) } (.ref s.heap.objs.size) "set" := ⟨_, at_, rfl⟩
  have i1 := made.init.lookup
  have i2 := made.init.bind (.ref s.heap.objs.size)
  repeat (any_goals (first | assumption | wp_step))
  apply codeAny_call_builtin made.init.plain F.entry_set_init
  apply check_set_init_1 ty
  apply thn fill
  rintro _ s' ⟨rfl, hR⟩
  have e := h s' hR
  repeat (any_goals (first | assumption | wp_step))
theorem fill_list {l : Addr} {items : Array Value} {R : Shared → Prop} (hh : A.handled = none) (hl : s.heap.IsList l items)
    (loop : ∀ s0 : Shared, s0 = { s with heap := (s.heap.push (noneYet w)).push { cls := .type "list_iterator", data := .fields #[.ref l, .int 0 0] } } →
      codeAny (model P w) A (.builtin "set.update.loop" ⟨[.ref s.heap.objs.size, .ref (s.heap.push (noneYet w)).objs.size], []⟩) (wants (fun v s' => v = .none ∧ R s') E) s0) :
    wpAny (model P w) A (Builtin.«set.__init__» ⟨[.ref s.heap.objs.size, .ref l], []⟩) (fun f s' => f = .done (.ret .none) ∧ R s') E { s with heap := s.heap.push (noneYet w) } := by
  have at_ : (s.heap.push (noneYet w)).get? s.heap.objs.size = some (noneYet w) := Heap.get?_push_size _ rfl
  have hl1 : (s.heap.push (noneYet w)).IsList l items := hl.push _
  have ty : Shared.TypeIs { s with heap := s.heap.push (noneYet w) } (.ref l) "list" := by
    obtain ⟨o, ho, hc, _⟩ := hl1
    exact ⟨o, ho, hc⟩
  have n1 := F.sub_list_set
  have n2 := F.sub_list_frozenset
  have n3 : (Value.type "list" == Value.type "dict") = false := by decide
  unfold Builtin.«set.__init__»
  unfold noKeywords
  unfold Builtin.Frozenset.updateFrom
  generalize hPI : pyIter = PI
  wp_walk
  subst hPI
  apply wpAny_pyIter_list hl1
  apply wpAny_bind
  apply wpAny_runValue
  apply codeAny_mono (loop _ rfl)
  intro r s' hr
  rcases r with e | fl
  · exact hr
  rcases fl with _ | v <;> try exact hr.elim
  obtain ⟨rfl, hR⟩ := hr
  exact wpAny_pure (wpAny_pure ⟨rfl, hR⟩)
theorem set_ints {l : Addr} {items : Array Value} (ns : List Int) {Q : Value → Shared → Prop} (hh : A.handled = none) (hl : s.heap.IsList l items) (hi : IntsAre items.toList ns) (hb : ns.length + 1 < scanBound)
    (h : ∀ s' c, Moved [s.heap.objs.size, s.heap.objs.size + 1] (fun a b => b = a) { s with heap := (s.heap.push (noneYet w)).push { cls := .type "list_iterator", data := .fields #[.ref l, .int 0 0] } } s' → c ≤ ns.length → SetR w s'.heap s.heap.objs.size (fun j => decide (j ∈ ns)) c → Q (.ref s.heap.objs.size) s') :
    wpAny (model P w) A (call (.type "set") [.ref l]) Q E s := by
  have size : items.size = ns.length := by
    rw [← IntsAre.length hi, Array.length_toList]
  have top : (s.heap.push (noneYet w)).objs.size = s.heap.objs.size + 1 := Heap.size_push ..
  have below : l < s.heap.objs.size := by
    obtain ⟨o, ho, _⟩ := hl
    exact Heap.lt_size ho
  apply set_call (R := fun s' => ∃ c, Moved [s.heap.objs.size, s.heap.objs.size + 1] (fun a b => b = a) { s with heap := (s.heap.push (noneYet w)).push { cls := .type "list_iterator", data := .fields #[.ref l, .int 0 0] } } s' ∧ c ≤ ns.length ∧ SetR w s'.heap s.heap.objs.size (fun j => decide (j ∈ ns)) c)
  · apply fill_list (by simp [hh]) hl
    rintro _ rfl
    have walk := (Walks.list (prog := P) (w := w) (A := A.in1.in1.in1) (by simp [hh]) (s.heap.push (noneYet w)).objs.size l (fun z => Nat.lt_irrefl _ (Nat.lt_of_lt_of_le (z ▸ below) (top ▸ Nat.le_succ _))) items).toS
    have apart : s.heap.objs.size ∉ [(s.heap.push (noneYet w)).objs.size, l] := fun z => by
      rw [top] at z
      rcases List.mem_cons.mp z with z | z
      · exact Nat.succ_ne_self _ z.symm
      · exact Nat.lt_irrefl _ (List.mem_singleton.mp z ▸ below)
    apply set_update_ints walk s.heap.objs.size apart ns size hb (fun i v hv => ?_) items.size 0 _ (by omega) (by omega) ⟨⟨_, Heap.get?_push_size _ rfl, rfl, rfl⟩, (hl.push _).push _⟩ ⟨0, Nat.le_refl 0, setR_new_at (Heap.get?_push_of_some _ (Heap.get?_push_size _ rfl))⟩
    · intro s' c moved few inside
      rw [top] at moved
      exact ⟨rfl, c, moved, by omega, inside⟩
    · have at_ : items.toList[i]? = some v := by rw [Array.getElem?_toList]; exact hv
      obtain ⟨t, e⟩ := IntsAre.int_at hi i v at_
      have lt : i < ns.length := by
        have := (List.getElem?_eq_some_iff.mp at_).1
        rw [Array.length_toList] at this
        omega
      exact ⟨ns[i], t, List.getElem?_eq_getElem lt, by rw [e]; simp [lt]⟩
  · rintro s' ⟨c, moved, few, inside⟩
    exact h s' c moved few inside
end
end Zs
namespace Pd
open PySem PySem.Spec PyProof.Rows L2 LamX
section
variable {X : Cx} {T : List (Addr × Str)} {E : XK} {k : Nat}
theorem ints_reps {K : PySem.W.Frag} {wd : Wd} : ∀ (ns : List Int), Reps K wd (ns.map V.int) (ns.map D.int)
  | [] => .nil
  | n :: ns => .cons (.int n) (ints_reps ns)
end
end Pd

namespace Zs
open PySem PySem.Spec PyProof.Rows L2
theorem few_of {α : Type} [DecidableEq α] : ∀ {l M : List α}, l.Nodup → (∀ x ∈ l, x ∈ M) → l.length ≤ M.length
  | [], _, _, _ => Nat.zero_le _
  | x :: l, M, nd, h => by
    obtain ⟨n1, n2⟩ := List.nodup_cons.mp nd
    have hx := h x List.mem_cons_self
    have := few_of (M := M.erase x) n2 fun y hy => (List.mem_erase_of_ne fun (e : y = x) => n1 (e ▸ hy)).mpr (h y (List.mem_cons_of_mem _ hy))
    have e := List.length_erase_of_mem hx
    have p : 0 < M.length := List.length_pos_of_mem hx
    rw [List.length_cons]
    omega
structure Upon (P : Program) (w : World) (h : Heap) (a : Addr) (ks : List (Addr × List Int)) (i : Nat) (L : List (Addr × List Int)) : Prop where
  is : ∃ es ep t, SetTR P w h a L es ep t
  sub : ∀ p ∈ L, p ∈ ks
  all : ∀ j p, j < i → ks[j]? = some p → p.2 ∈ L.map (·.2)
section
variable {P : Program} {w : World} {A : Around} {E : Value → Shared → Prop} {s : Shared}
theorem loop_tups {I : Addr} {fp wr : List Addr} {G : Array GenState → Array GenState → Prop} {Pv : Nat → Value → Prop} {St : Nat → Shared → Prop} {R : Result → Shared → Prop} {a : Addr} {ks : List (Addr × List Int)} {M : List (List Int)} {h0 : Heap}
    (walk : WalksS P w A.in1 I fp wr G ks.length Pv St) (apart : a ∉ fp) (few : M.length < 63) (inM : ∀ p ∈ ks, p.2 ∈ M) (val : ∀ i v, Pv i v → ∃ p, ks[i]? = some p ∧ v = .ref p.1)
    (old : ∀ p ∈ ks, IsT P w h0 p.2 p.1) (free : ∀ b, b = a ∨ b ∈ wr → h0.get? b = none) (room : A.in1.units < cLine)
    (fin : ∀ s1 s' L, Moved (a :: wr) G s1 s' → Upon P w s'.heap a ks ks.length L → (∀ b o, h0.get? b = some o → s'.heap.get? b = some o) → s1 = s → R (.ok (.ret .none)) s') :
    ∀ d i s1, i + d = ks.length → St i s1 → (∀ b o, h0.get? b = some o → s1.heap.get? b = some o) → (∃ L, Upon P w s1.heap a ks i L) → Moved (a :: wr) G s s1 → codeAny (model P w) A (.builtin "set.update.loop" ⟨[.ref a, .ref I], []⟩) R s1 := by
  have ne : ∀ {b : Addr} {o : Obj}, h0.get? b = some o → b ∉ a :: wr := fun {b o} e z => by
    rw [free b (List.mem_cons.mp z)] at e
    cases e
  have aw : a ∉ wr := fun z => apart (walk.sub a z)
  -- one turn of the walk leaves the set alone
  have stay : ∀ {x y : Shared} {i : Nat} {L : List (Addr × List Int)}, Moved wr G x y → (∀ b o, h0.get? b = some o → x.heap.get? b = some o) → Upon P w x.heap a ks i L → (∀ b o, h0.get? b = some o → y.heap.get? b = some o) ∧ Upon P w y.heap a ks i L := fun {x y i L} m k u => by
    have k' : ∀ b o, h0.get? b = some o → y.heap.get? b = some o := fun b o e => m.heap b o (fun z => ne e (List.mem_cons_of_mem _ z)) (k b o e)
    obtain ⟨es, ep, t, r⟩ := u.is
    exact ⟨k', ⟨es, ep, t, r.keep (fun o e => m.heap a o aw e) fun p hp => isT_keep (old p (u.sub p hp)) k'⟩, u.sub, u.all⟩
  have wide : ∀ {x y : Shared}, Moved wr G x y → Moved (a :: wr) G x y := fun m => m.mono fun b hb => List.mem_cons_of_mem _ hb
  intro d
  induction d with
  | zero =>
    rintro i s1 hi st k ⟨L, u⟩ mv
    obtain rfl : i = ks.length := hi
    apply codeAny_builtin F.entry_set_update_loop
    rw [Around.under_plainId F.plain_set_update_loop _]
    apply wpAny_bind
    apply walk.done s1 _ _ st
    intro s2 m
    obtain ⟨k2, u2⟩ := stay m k u
    exact wpAny_pure (fin s s2 L (mv.trans walk.gtrans (wide m)) u2 k2 rfl)
  | succ d ih =>
    rintro i s1 hi st k ⟨L, u⟩ mv
    apply codeAny_builtin F.entry_set_update_loop
    rw [Around.under_plainId F.plain_set_update_loop _]
    apply wpAny_bind
    apply walk.item i s1 _ _ (by omega) st
    intro v s2 pv st2 m
    obtain ⟨p, hp, rfl⟩ := val i v pv
    obtain ⟨k2, u2⟩ := stay m k u
    obtain ⟨es, ep, t, r⟩ := u2.is
    have pm : p ∈ ks := List.mem_of_getElem? hp
    have px := isT_keep (old p pm) k2
    have lL : L.length + 1 < 64 := by
      have := few_of r.nd fun x hx => by
        obtain ⟨q, hq, rfl⟩ := List.mem_map.mp hx
        exact inM q (u2.sub q hq)
      rw [List.length_map] at this
      omega
    apply wpAny_bind
    apply wpAny_holding
    unfold setAdd
    apply wpAny_holding
    apply wpAny_bind
    apply wpAny_pyHash_tuple room px
    apply add_at (s := { s2 with toks := s2.toks + (p.2.length + 1) }) r px room lL
    intro b h' L' es' ep' t' but r' same more
    have back : ∀ q ∈ L', q ∈ p :: L := fun q hq => by
      by_cases c : p.2 ∈ L.map (·.2)
      · rw [same c] at hq
        exact List.mem_cons_of_mem _ hq
      · exact (more c).mem_iff.mp hq
    have forth : ∀ x, x = p.2 ∨ x ∈ L.map (·.2) → x ∈ L'.map (·.2) := fun x hx => by
      by_cases c : p.2 ∈ L.map (·.2)
      · rw [same c]
        rcases hx with rfl | hx
        · exact c
        · exact hx
      · rw [((more c).map (·.2)).mem_iff, List.map_cons]
        exact List.mem_cons.mpr hx
    have other : ∀ {c : Addr} {o : Obj}, c ≠ a → s2.heap.get? c = some o → h'.get? c = some o := fun {c o} hc e => (but.2 c hc).trans e
    have k3 : ∀ c o, h0.get? c = some o → h'.get? c = some o := fun c o e => other (fun z => ne e (z ▸ List.mem_cons_self)) (k2 c o e)
    refine wpAny_pure ⟨plainId_quiet F.plain_set_update_loop _, ih (i + 1) _ (by omega) (walk.frame _ s2 _ _ st2 (Nat.le_add_right _ _) fun c hc o e => other (fun z => apart (z ▸ hc)) e) k3 ⟨L', ⟨es', ep', t', r'⟩, fun q hq => ?_, fun j q hj hq => ?_⟩ ?_⟩
    · rcases List.mem_cons.mp (back q hq) with rfl | z
      · exact pm
      · exact u.sub q z
    · by_cases e : j = i
      · subst e
        rw [hp] at hq
        cases hq
        exact forth _ (.inl rfl)
      · exact forth _ (.inr (u.all j q (by omega) hq))
    · exact mv.trans walk.gtrans ((wide m).then_heap (Nat.le_add_right _ _) fun c o hc e => other (fun z => hc (z ▸ List.mem_cons_self)) e)
theorem set_tups {l : Addr} {items : Array Value} {ks : List (Addr × List Int)} {M : List (List Int)} {Q : Value → Shared → Prop} (hh : A.handled = none) (hl : s.heap.IsList l items) (hi : items.toList = ks.map fun p => Value.ref p.1)
    (old : ∀ p ∈ ks, IsT P w s.heap p.2 p.1) (few : M.length < 63) (inM : ∀ p ∈ ks, p.2 ∈ M) (room : A.units + 4 < cLine)
    (h : ∀ s' L, s' = { s with heap := s'.heap, toks := s'.toks } → Upon P w s'.heap s.heap.objs.size ks ks.length L → (∀ b o, s.heap.get? b = some o → s'.heap.get? b = some o) → Q (.ref s.heap.objs.size) s') :
    wpAny (model P w) A (call (.type "set") [.ref l]) Q E s := by
  have size : items.size = ks.length := by
    have := congrArg List.length hi
    rwa [Array.length_toList, List.length_map] at this
  have top : (s.heap.push (noneYet w)).objs.size = s.heap.objs.size + 1 := Heap.size_push ..
  have none_ : ∀ b, s.heap.objs.size ≤ b → s.heap.get? b = none := fun b hb => by
    cases q : s.heap.get? b with
    | none => rfl
    | some o => exact absurd (Nat.lt_of_lt_of_le (Heap.lt_size q) hb) (Nat.lt_irrefl _)
  have below : l < s.heap.objs.size := by
    obtain ⟨o, ho, _⟩ := hl
    exact Heap.lt_size ho
  apply set_call (R := fun s' => ∃ L, s' = { s with heap := s'.heap, toks := s'.toks } ∧ Upon P w s'.heap s.heap.objs.size ks ks.length L ∧ ∀ b o, s.heap.get? b = some o → s'.heap.get? b = some o)
  · apply fill_list (by simp [hh]) hl
    intro s0 e0
    have walk := (Walks.list (prog := P) (w := w) (A := A.in1.in1.in1) (by simp [hh]) (s.heap.push (noneYet w)).objs.size l (fun z => Nat.lt_irrefl _ (Nat.lt_of_lt_of_le (z ▸ below) (top ▸ Nat.le_succ _))) items).toS
    rw [size] at walk
    have apart : s.heap.objs.size ∉ [(s.heap.push (noneYet w)).objs.size, l] := fun z => by
      rw [top] at z
      rcases List.mem_cons.mp z with z | z
      · exact Nat.succ_ne_self _ z.symm
      · exact Nat.lt_irrefl _ (List.mem_singleton.mp z ▸ below)
    have kp : ∀ b o, s.heap.get? b = some o → s0.heap.get? b = some o := fun b o e => by
      rw [e0]
      exact Heap.get?_push_of_some _ (Heap.get?_push_of_some _ e)
    refine loop_tups (s := s0) (M := M) (h0 := s.heap) walk apart few inM (fun i v hv => ?_) old (fun b hb => none_ b ?_) (by show A.units + 1 + 1 + 1 < cLine; omega) (fun s1 s' L mv u k e => ?_) ks.length 0 s0 (by omega) ?_ kp ⟨[], ⟨_, _, _, setTR_fresh ?_⟩, (fun p hp => by cases hp), fun j p hj => by omega⟩ (Moved.refl walk.grefl)
    · have at_ : items.toList[i]? = some v := by rw [Array.getElem?_toList]; exact hv
      rw [hi, List.getElem?_map] at at_
      cases q : ks[i]? with
      | none => rw [q] at at_; cases at_
      | some p =>
        rw [q] at at_
        exact ⟨p, rfl, (Option.some.inj at_).symm⟩
    · rcases hb with rfl | hb
      · exact Nat.le_refl _
      · rw [List.mem_singleton.mp hb, top]
        exact Nat.le_succ _
    · refine ⟨rfl, L, ?_, u, k⟩
      have e1 := mv.eq_with
      rw [e, e0] at e1
      rw [e1]
    · rw [e0]
      exact ⟨⟨_, Heap.get?_push_size _ rfl, rfl, rfl⟩, (hl.push _).push _⟩
    · rw [e0]
      exact Heap.get?_push_of_some _ (Heap.get?_push_size _ rfl)
  · rintro s' ⟨L, e, u, k⟩
    exact h s' L e u k
end
end Zs
namespace Pd
open PySem PySem.Spec PyProof.Rows L2 LamX
def rSst (K : PySem.W.Frag) : V → Hp → VK → Prop := fun x H Q => ∃ (l : Addr) (ks : List (Addr × List Int)) (d : Nat) (top : Int) (M : List (List Int)), x = .ref l ∧ SqL K H l (ks.map fun p => V.ref p.1) ∧ (∀ p ∈ ks, SqT K H p.1 (p.2.map V.int)) ∧ 1 ≤ d ∧ M.length < 63 ∧
  (∀ p ∈ ks, p.2 ∈ M ∧ p.2.length = d ∧ TS.Bd top p.2) ∧ ∀ L : List (Addr × List Int), (L.map (·.2)).Nodup → (∀ p ∈ L, p ∈ ks) → (∀ p ∈ ks, p.2 ∈ L.map (·.2)) → ∀ p, H p = none → Q (.ref p) (upd H p (.lst (L.map fun q => V.ref q.1)))
theorem pe_sortedSetT {X : Cx} {a : Expr} {ta : TE} {p p2 q pos : Pos} (hc : X.calm = true) (hu : X.A.units + 4 < cLine) (hg : Gl X "sorted") (hm : X.mg "sorted" = none) (hg2 : Gl X "set") (hm2 : X.mg "set" = none) (ha : PE X a ta)
    (na : starEach [a] X.env = (false, eval a X.env) :: starEach [] X.env := by rfl) (nb : starEach [.Call (.Name "set" p2) [a] [] q] X.env = (false, eval (.Call (.Name "set" p2) [a] [] q) X.env) :: starEach [] X.env := by rfl) : PE X (.Call (.Name "sorted" p) [.Call (.Name "set" p2) [a] [] q] [] pos) (fun σ H Q => ta σ H fun x H1 => rSst X.K x H1 Q) := by
  refine ⟨fun pins s σ H Q I h => ?_⟩
  refine Call_ (ld_blt I hg hm (by decide +kernel : bootBuiltins "sorted" = some (.builtin "sorted")) ?_)
  refine PyProof.Rows.callWith_builtin1 (PyProof.Rows.args_cons ?_ nb) nb rfl
  refine Call_ (ld_blt I hg2 hm2 PyProof.Rows.boot_set ?_)
  refine PyProof.Rows.callWith_type1 (PyProof.Rows.args_cons (thn (ha.run pins s σ H _ I h) fun v s1 ⟨x, H1, I1, r1, q1⟩ => PyProof.Rows.args_nil ?_) na) na rfl
  obtain ⟨l, ks, d, top, M, rfl, hq, hT, d1, few, hM, q1⟩ := q1
  cases r1
  obtain ⟨its, r, pl, hz⟩ := I1.list hq
  have er : its = ks.map fun p => Value.ref p.1 := refs_of_vals r
  refine Zs.set_tups (ks := ks) (M := M) (I1.ok.hd hc) pl.isList (by rw [er]) (fun p hp => I1.isT (hT p hp)) few (fun p hp => (hM p hp).1) hu fun s2 L es u keep => ?_
  refine PyProof.Rows.args_nil ?_
  have I2 : Inv X pins σ H1 s2 := by
    rw [es]
    exact I1.kept keep
  obtain ⟨es1, ep, t, R⟩ := u.is
  refine sorted_setT (d := d) (B := top) R (I2.ok.hd hc) d1 (fun p hp => (hM p (u.sub p hp)).2) fun s' pp out c' L' k g o hp hgl hi pm _ => ?_
  have hlen : (L'.map fun q => V.ref q.1).length ≤ sizeLine := by
    rw [List.length_map, pm.length_eq, sizeLine_eq]
    have := R.few
    omega
  have hn : H1 pp = none := I2.hok.fresh hp
  have J : Inv X pins σ (upd H1 pp (.lst (L'.map fun q => V.ref q.1))) { s2 with heap := s'.heap, gens := s'.gens, drawn := s'.drawn, toks := s'.toks } :=
    I2.call (ch := []) (Un.laid k hp hn) (I2.hok.laid k hp ⟨hlen, out.toList, c', by rw [hi]; exact vals_of_refs L', hgl⟩) (by rw [g]; exact I2.bare) (fun _ z => nomatch z)
  have e : s' = { s2 with heap := s'.heap, gens := s'.gens, drawn := s'.drawn, toks := s'.toks } := by
    cases s'
    cases s2
    cases o
    rfl
  rw [e]
  refine ⟨.ref pp, _, J, rfl, q1 L' ((pm.map (·.2)).nodup_iff.mpr R.nd) (fun p hp => u.sub p (pm.mem_iff.mp hp)) (fun p hp => ?_) pp hn⟩
  obtain ⟨j, hj⟩ := List.mem_iff_getElem?.mp hp
  exact (pm.map (·.2)).mem_iff.mpr (u.all j p (List.getElem?_eq_some_iff.mp hj).1 hj)
section
variable {X : Cx} {T : List (Addr × Str)} {E : XK} {k : Nat}
def wSortSetT (a : W D) : W (List D) := a.bind fun x env Q _ => ∃ (rs : List (List Int)) (d : Nat) (top : Int) (M : List (List Int)), x = .lst (rs.map fun r => .tup (r.map D.int)) ∧ 1 ≤ d ∧ M.length < 63 ∧ (∀ r ∈ rs, r ∈ M ∧ r.length = d ∧ ∀ m ∈ r, 0 ≤ m ∧ m < top) ∧
  ∀ ms : List (List Int), ms.Nodup → (∀ r, r ∈ ms ↔ r ∈ rs) → Q (ms.map fun r => .tup (r.map D.int)) env
theorem reps_tups {K : PySem.W.Frag} {wd : Wd} : ∀ {vs : List V} {rs : List (List Int)}, Reps K wd vs (rs.map fun r => .tup (r.map D.int)) → ∃ ks : List (Addr × List Int), vs = ks.map (fun p => V.ref p.1) ∧ rs = ks.map (·.2) ∧ ∀ p ∈ ks, wd.M p.1 = some (.tup (p.2.map V.int))
  | _, [], .nil => ⟨[], rfl, rfl, fun p hp => by cases hp⟩
  | _, r :: rs, .cons (.tup (a := a) h h1) t => by
    obtain ⟨ks, e1, e2, e3⟩ := reps_tups t
    rw [h1.ints] at h
    refine ⟨(a, r) :: ks, by rw [e1]; rfl, by rw [e2]; rfl, fun p hp => ?_⟩
    rcases List.mem_cons.mp hp with rfl | hp
    · exact h
    · exact e3 p hp
theorem tups_reps {K : PySem.W.Frag} {wd : Wd} : ∀ (ks : List (Addr × List Int)), (∀ p ∈ ks, wd.M p.1 = some (.tup (p.2.map V.int))) → Reps K wd (ks.map fun p => V.ref p.1) ((ks.map (·.2)).map fun r => .tup (r.map D.int))
  | [], _ => .nil
  | p :: ks, h => .cons (.tup (h p List.mem_cons_self) (Reps.ofInts p.2)) (tups_reps ks fun q hq => h q (List.mem_cons_of_mem _ hq))
theorem jf_sortedSetT {a : Expr} {w : W D} {p p2 q pos : Pos} (B : Bd X E k) (hm : X.mg "sorted" = none) (hm2 : X.mg "set" = none) (ha : JB T X E a w) (hg : Gl X "sorted" := by rfl) (hg2 : Gl X "set" := by rfl)
    (na : starEach [a] X.env = (false, eval a X.env) :: starEach [] X.env := by rfl) (nb : starEach [.Call (.Name "set" p2) [a] [] q] X.env = (false, eval (.Call (.Name "set" p2) [a] [] q) X.env) :: starEach [] X.env := by rfl) : JF T X E (.Call (.Name "sorted" p) [.Call (.Name "set" p2) [a] [] q] [] pos) (wSortSetT w) := by
  have hu : X.A.units + 4 < cLine := by have := B.room.un; omega
  refine peI (pe_sortedSetT B.calm hu hg hm hg2 hm2 ha na nb) fun σ H Q ⟨c, wd, env, P, Ex, rl, h, xo, kk⟩ => ?_
  refine ⟨c, wd, env, _, Ex, rl, h, xo, fun x env1 ⟨rs, d, top, M, e1, d1, few, hM, h1⟩ v wd1 H1 le1 r1 tp => ?_⟩
  subst e1
  obtain ⟨l, vs, rfl, q1, q2⟩ := top_lst r1.good tp
  obtain ⟨ks, rfl, rfl, q3⟩ := reps_tups q2
  refine ⟨l, ks, d, top, M, rfl, .inl (.inl q1), fun p hp => sub_sqT r1.good (q3 p hp), d1, few, fun p hp => hM p.2 (List.mem_map.mpr ⟨p, hp, rfl⟩), fun L nd s1 s2 pp hp => ?_⟩
  have hl : L.length ≤ M.length := by
    have := Zs.few_of nd fun x hx => by
      obtain ⟨p, hp, rfl⟩ := List.mem_map.mp hx
      exact (hM p.2 (List.mem_map.mpr ⟨p, s1 p hp, rfl⟩)).1
    rwa [List.length_map] at this
  have hz : (L.map fun q => V.ref q.1).length ≤ sizeLine := by
    rw [List.length_map, sizeLine_eq]
    omega
  obtain ⟨r2, f⟩ := r1.fresh hp (tups_reps L fun p hp => q3 p (s1 p hp)) hz
  refine kk _ env1 (h1 _ nd fun r => ⟨fun hr => ?_, fun hr => ?_⟩) _ wd1 _ le1 r2 f
  · obtain ⟨p, hp, rfl⟩ := List.mem_map.mp hr
    exact List.mem_map.mpr ⟨p, s1 p hp, rfl⟩
  · obtain ⟨p, hp, rfl⟩ := List.mem_map.mp hr
    exact s2 p hp
end
end Pd

namespace Pd
open PySem PySem.Spec PyProof.Rows L2 LamX
end Pd

namespace Zs
open PySem PySem.Spec PyProof.Rows L2
section
variable {P : Program} {w : World} {A : Around} {E : Value → Shared → Prop} {s : Shared}
end
end Zs
namespace Pd
open PySem PySem.Spec PyProof.Rows L2 LamX
section
variable {X : Cx} {T : List (Addr × Str)} {E : XK} {k : Nat}
end
end Pd

namespace Zs
open PySem PySem.Spec PyProof.Rows L2
section
variable {P : Program} {w : World} {A : Around} {E : Value → Shared → Prop} {s : Shared}
end
end Zs
namespace Pd
open PySem PySem.Spec PyProof.Rows L2 LamX
section
variable {X : Cx} {T : List (Addr × Str)} {E : XK} {k : Nat}
end
end Pd

namespace Pd
open PySem PySem.Spec PyProof.Rows L2 LamX
section
variable {K : PySem.W.Frag} {T : List (Addr × Str)} {c : Ctx} {wd wd' : Wd} {env env' : PEnv} {σ σ' : L2.St} {H H' : Hp}
theorem Rel.putDct (r : Rel K T c wd env σ H) {i : Nat} {lk lk2 : Option Obj} {ks ls : DK D} {p : Addr} {us : DK V} (e : env[i]? = some (some (.dct lk ks))) (hp : σ[i]? = some (some (V.ref p))) (en : us.same ls) (er : Reps K wd us.vals ls.vals) (hz : Sized (lkO lk2 us.cell)) :
    Rel K T c wd (env.set i (some (.dct lk2 ls))) σ (upd H p (lkO lk2 us.cell)) := by
  obtain ⟨p', ws', h1, h2, h3, h4, h5, h6⟩ := r.ext.dct i lk ks e
  rw [h1] at hp
  cases hp
  have hil : i < env.length := (List.getElem?_eq_some_iff.mp e).1
  have stay : ∀ {l : Nat} {s : Sl}, (env.set i (some (.dct lk2 ls)))[l]? = some (some s) → (∀ k q, s ≠ .dct k q) → env[l]? = some (some s) := fun {l s} q n => by
    rcases get_set q with ⟨rfl, q, _⟩ | ⟨_, q⟩
    · cases q
      exact absurd rfl (n _ _)
    · exact q
  have ownS : ∀ {l : Nat} {zs : List D}, (env.set i (some (.dct lk2 ls)))[l]? = some (some (.own zs)) → env[l]? = some (some (.own zs)) := fun {l zs} q => stay q fun _ _ z => nomatch z
  have celS : ∀ {l : Nat} {cs : List (Addr × List D)}, (env.set i (some (.dct lk2 ls)))[l]? = some (some (.cels cs)) → env[l]? = some (some (.cels cs)) := fun {l zs} q => stay q fun _ _ z => nomatch z
  have objS : ∀ {l : Nat} {p0 : Addr} {C : Str} {fs : List (Str × D)}, (env.set i (some (.dct lk2 ls)))[l]? = some (some (.obj p0 C fs)) → env[l]? = some (some (.obj p0 C fs)) := fun {l p0 C fs} q => stay q fun _ _ z => nomatch z
  have dctS : ∀ {l : Nat} {k : Option Obj} {q' : DK D}, (env.set i (some (.dct lk2 ls)))[l]? = some (some (.dct k q')) → (i = l ∧ k = lk2 ∧ q' = ls) ∨ (i ≠ l ∧ env[l]? = some (some (.dct k q'))) := fun {l k q'} q => by
    rcases get_set q with ⟨rfl, q, _⟩ | ⟨ne, q⟩
    · cases q
      exact .inl ⟨rfl, rfl, rfl⟩
    · exact .inr ⟨ne, q⟩
  have old : ∀ {l : Nat} {k : Option Obj} {q' : DK D}, (env.set i (some (.dct lk2 ls)))[l]? = some (some (.dct k q')) → ∃ k0 q0, env[l]? = some (some (.dct k0 q0)) := fun {l k q'} q => by
    rcases dctS q with ⟨rfl, _⟩ | ⟨_, q⟩
    · exact ⟨_, _, e⟩
    · exact ⟨_, _, q⟩
  have nl : ∀ {a : Addr} {vs : List V}, H a = some (.lst vs) → a ≠ p := fun {a vs} q z => by
    rw [z, h2] at q
    exact lk_lst q.symm
  have hb : p ∉ wd.B := r.good.dctB h2
  refine ⟨r.ord, ⟨fun a o q => ?_, r.good.ntb, fun b hb' => ?_, fun q hq => ?_, siz_upd r.good.siz hz⟩, ⟨fun a o q n t => ?_, fun a q => ?_⟩, by rw [List.length_set]; exact r.len, fun l x q => r.dat l x (stay q fun _ _ z => nomatch z), fun l zs q => ?_, fun l m as bs q e1 e2 e3 e4 => r.sep l m as bs q (ownS e1) (ownS e2) e3 e4, fun q hq => ?_,
    ⟨fun l p1 C' fs' q => ?_, fun l m p1 p2 C1 C2 f1 f2 e1 e2 => r.ext.ob1 l m p1 p2 C1 C2 f1 f2 (objS e1) (objS e2), fun l cs q s hs => ?_, fun l cs q => r.ext.cnd l cs (celS q), fun l m cs ds e1 e2 => r.ext.ce1 l m cs ds (celS e1) (celS e2), fun l k q' q => ?_, fun l m k k' ks1 ls1 p1 e1 e2 e3 e4 => ?_⟩⟩
  · rw [upd_ne (fun z => by rw [z, h3] at q; cases q)]
    exact r.good.sub a o q
  · obtain ⟨z1, g, s, c', z2, z3⟩ := r.good.box b hb'
    exact ⟨z1, g, s, c', by rw [upd_ne (nl z2)]; exact z2, z3⟩
  · obtain ⟨ps, z1, z2, z3⟩ := r.good.tab q hq
    refine ⟨ps, ?_, z2, fun pos cv hc => ?_⟩
    · rw [upd_ne (fun z => by rw [z, h2] at z1; cases lk <;> cases ws' <;> cases z1)]
      exact z1
    · obtain ⟨a, y1, y2⟩ := z3 pos cv hc
      refine ⟨a, y1, ?_⟩
      rw [upd_ne (fun z => by rw [z, h2] at y2; cases lk <;> cases ws' <;> cases y2)]
      exact y2
  · rw [upd_ne (show a ≠ p from fun z => h4.no (by rw [← z]; exact q) t)]
    exact r.keep.st a o q n t
  · by_cases ha : a = p
    · subst ha
      exact h4
    · exact r.keep.dm a (q.upd ha)
  · obtain ⟨a, vs, z1, z2, z3⟩ := r.own l zs (ownS q)
    exact ⟨a, vs, z1, by rw [upd_ne (nl z2)]; exact z2, z3⟩
  · obtain ⟨z1, z2, z3, z4⟩ := r.pin q hq
    exact ⟨by rw [upd_ne (nl z1)]; exact z1, z2, z3, fun l zs e => z4.o l zs (ownS e), fun l cs e => z4.c l cs (celS e)⟩
  · obtain ⟨dx, us', z1, z2, z3⟩ := r.ext.obj l p1 C' fs' (objS q)
    exact ⟨dx, us', z1, by rw [upd_ne (fun z => by rw [z, h2] at z2; exact lk_ins z2.symm)]; exact z2, z3⟩
  · obtain ⟨⟨vs, z1, z2⟩, z3, z4, z5, z6⟩ := r.ext.cel l cs (celS q) s hs
    exact ⟨⟨vs, by rw [upd_ne (nl z1)]; exact z1, z2⟩, z3, z4, z5, fun m zs e => z6 m zs (ownS e)⟩
  · rcases dctS q with ⟨rfl, rfl, rfl⟩ | ⟨ne, q⟩
    · exact ⟨p, us, h1, upd_same, h3, h4, en, er⟩
    · obtain ⟨p0, ws, z1, z2, z3⟩ := r.ext.dct l k q' q
      refine ⟨p0, ws, z1, ?_, z3⟩
      rw [upd_ne (show p0 ≠ p from fun z => ne (r.ext.dc1 i l lk k ks q' p0 e q (by rw [z]; exact h1) z1))]
      exact z2
  · obtain ⟨k0, q0, f1⟩ := old e1
    obtain ⟨k1, q1, f2⟩ := old e2
    exact r.ext.dc1 l m k0 k1 q0 q1 p1 f1 f2 e3 e4
end
end Pd

namespace Pd
open PySem PySem.Spec PyProof.Rows L2 LamX
theorem dct_t {K : PySem.W.Frag} {wd : Wd} {c : Ctx} {σ : L2.St} {H : Hp} {i : Nat} {lk : Option Obj} {ks : List (List Key × D)} (h : ∃ (p : Addr) (vs : DK V), σ[i]? = some (some (V.ref p)) ∧ H p = some (lkO lk vs.cell) ∧ wd.M p = none ∧ Nt c.H p ∧ vs.same (.t ks) ∧ Reps K wd vs.vals (DK.vals (.t ks))) :
    ∃ (p : Addr) (vs : List (List Key × V)), σ[i]? = some (some (V.ref p)) ∧ H p = some (lkO lk (.dT vs)) ∧ wd.M p = none ∧ Nt c.H p ∧ vs.map (·.1) = ks.map (·.1) ∧ Reps K wd (vs.map (·.2)) (ks.map (·.2)) := by
  obtain ⟨p, vs, h1, h2, h3, h4, h5, h6⟩ := h
  cases vs with
  | s vs => exact h5.elim
  | t vs => exact ⟨p, vs, h1, h2, h3, h4, h5, h6⟩
section
variable {K : PySem.W.Frag} {wd : Wd}
theorem Reps.snoc {vs : List V} {ds : List D} {v : V} {d : D} (h : Reps K wd vs ds) (r : Rep K wd v d) : Reps K wd (vs ++ [v]) (ds ++ [d]) := h.append (.cons r .nil)
end
section
variable {X : Cx} {T : List (Addr × Str)} {E : XK} {k : Nat} {x : Str} {y e : Expr} {p1 p2 pos apos : Pos}
end
end Pd

namespace Pd
open PySem PySem.Spec PyProof.Rows L2 LamX
section
variable {J : It} {n : Nat} {G : Hp → Prop} {Y : Nat → Hp → V → Hp → Prop}
end
section
variable {K : PySem.W.Frag} {T : List (Addr × Str)} {c : Ctx} {wd wd' : Wd} {env env' : PEnv} {σ σ' : L2.St} {H H' : Hp}
theorem Rel.setDct (r2 : Rel K T c wd env σ H) {i : Nat} {p : Addr} {us : DK V} {ls : DK D} (hp : H p = some us.cell) (hm : wd.M p = none) (hn : Nt c.H p) (fresh : ∀ (j : Nat) (lk : Option Obj) (ks : DK D), env[j]? = some (some (.dct lk ks)) → σ[j]? ≠ some (some (.ref p)))
    (en : us.same ls) (er : Reps K wd us.vals ls.vals) : Rel K T c wd (env.set i (some (.dct none ls))) (σ.set i (some (.ref p))) H := by
  have stay : ∀ {l : Nat} {s : Sl}, (env.set i (some (.dct none ls)))[l]? = some (some s) → (∀ k q, s ≠ .dct k q) → i ≠ l ∧ env[l]? = some (some s) := fun {l s} q n => by
    rcases get_set q with ⟨rfl, q, _⟩ | ⟨ne, q⟩
    · cases q
      exact absurd rfl (n _ _)
    · exact ⟨ne, q⟩
  have x2 := r2.ext
  refine ⟨r2.ord, r2.good, r2.keep, by simp [r2.len], fun j y e => ?_, fun j ys e => ?_, fun j l as bs q e1 e2 e3 e4 => ?_, fun q hq => ?_, ⟨fun l p1 C' fs' q => ?_, fun l m p1 p2 C1 C2 f1 f2 e1 e2 => ?_, fun l cs q s hs => ?_, fun l cs q => ?_, fun l m cs ds e1 e2 => ?_, fun l k q' q => ?_, fun l m k k' ks1 ls1 p1 e1 e2 e3 e4 => ?_⟩⟩
  · obtain ⟨ne, e⟩ := stay e fun _ _ z => nomatch z
    obtain ⟨w, h1, h2⟩ := r2.dat j y e
    exact ⟨w, by rw [List.getElem?_set_ne ne]; exact h1, h2⟩
  · obtain ⟨ne, e⟩ := stay e fun _ _ z => nomatch z
    obtain ⟨q, us, h1, h2⟩ := r2.own j ys e
    exact ⟨q, us, by rw [List.getElem?_set_ne ne]; exact h1, h2⟩
  · obtain ⟨n1, e1⟩ := stay e1 fun _ _ z => nomatch z
    obtain ⟨n2, e2⟩ := stay e2 fun _ _ z => nomatch z
    rw [List.getElem?_set_ne n1] at e3
    rw [List.getElem?_set_ne n2] at e4
    exact r2.sep j l as bs q e1 e2 e3 e4
  · obtain ⟨z1, z2, z3, z4⟩ := r2.pin q hq
    refine ⟨z1, z2, z3, fun j ys e => ?_, fun l cs e => z4.c l cs (stay e fun _ _ z => nomatch z).2⟩
    obtain ⟨ne, e⟩ := stay e fun _ _ z => nomatch z
    rw [List.getElem?_set_ne ne]
    exact z4.o j ys e
  · obtain ⟨ne, q⟩ := stay q fun _ _ z => nomatch z
    obtain ⟨dx, us', z1, z2⟩ := x2.obj l p1 C' fs' q
    exact ⟨dx, us', by rw [List.getElem?_set_ne ne]; exact z1, z2⟩
  · exact x2.ob1 l m p1 p2 C1 C2 f1 f2 (stay e1 fun _ _ z => nomatch z).2 (stay e2 fun _ _ z => nomatch z).2
  · obtain ⟨ne, q⟩ := stay q fun _ _ z => nomatch z
    obtain ⟨h1, h3, h4, h5, h6⟩ := x2.cel l cs q s hs
    refine ⟨h1, h3, h4, h5, fun j ys e => ?_⟩
    obtain ⟨ne2, e⟩ := stay e fun _ _ z => nomatch z
    rw [List.getElem?_set_ne ne2]
    exact h6 j ys e
  · exact x2.cnd l cs (stay q fun _ _ z => nomatch z).2
  · exact x2.ce1 l m cs ds (stay e1 fun _ _ z => nomatch z).2 (stay e2 fun _ _ z => nomatch z).2
  · rcases get_set q with ⟨rfl, q, hl⟩ | ⟨ne, q⟩
    · cases q
      rw [r2.len] at hl
      exact ⟨p, us, List.getElem?_set_self hl, hp, hm, hn, en, er⟩
    · obtain ⟨p0, ws, z1, z2⟩ := x2.dct l k q' q
      exact ⟨p0, ws, by rw [List.getElem?_set_ne ne]; exact z1, z2⟩
  · rcases get_set e1 with ⟨rfl, f1, hl⟩ | ⟨n1, f1⟩
    · rcases get_set e2 with ⟨rfl, f2, _⟩ | ⟨n2, f2⟩
      · rfl
      · rw [r2.len] at hl
        rw [List.getElem?_set_self hl] at e3
        cases e3
        rw [List.getElem?_set_ne n2] at e4
        exact absurd e4 (fresh _ _ _ f2)
    · rcases get_set e2 with ⟨rfl, f2, hl⟩ | ⟨n2, f2⟩
      · rw [r2.len] at hl
        rw [List.getElem?_set_self hl] at e4
        cases e4
        rw [List.getElem?_set_ne n1] at e3
        exact absurd e3 (fresh _ _ _ f1)
      · rw [List.getElem?_set_ne n1] at e3
        rw [List.getElem?_set_ne n2] at e4
        exact x2.dc1 l m k k' ks1 ls1 p1 f1 f2 e3 e4
end
end Pd

namespace Pd
open PySem PySem.Spec PyProof.Rows L2 LamX
section
variable {X : Cx} {T : List (Addr × Str)} {E : XK} {k : Nat} {tg kx vx iter : Expr} {ifs : List Expr} {scope : Scope} {pos spos py : Pos}
theorem Good.chg {wd : Wd} {H : Hp} (g : Good T wd H) {p : Addr} {us vs : List (Key × V)} (h : H p = some (.dK us)) (hm : wd.M p = none) : Good T wd (upd H p (.dK vs)) := by
  refine ⟨fun a o q => ?_, g.ntb, fun b hb => ?_, fun q hq => ?_, siz_upd g.siz trivial⟩
  · rw [upd_ne (fun z => by rw [z, hm] at q; cases q)]
    exact g.sub a o q
  · obtain ⟨z1, e, s, c', z2, z3⟩ := g.box b hb
    exact ⟨z1, e, s, c', by rw [upd_ne (fun z => by rw [z, h] at z2; cases z2)]; exact z2, z3⟩
  · obtain ⟨ps, z1, z2, z3⟩ := g.tab q hq
    refine ⟨ps, ?_, z2, fun pos cv hc => ?_⟩
    · rw [upd_ne (fun z => by rw [z, h] at z1; cases z1)]
      exact z1
    · obtain ⟨a, y1, y2⟩ := z3 pos cv hc
      refine ⟨a, y1, ?_⟩
      rw [upd_ne (fun z => by rw [z, h] at y2; cases y2)]
      exact y2
theorem Keep.chg {wd : Wd} {H1 H : Hp} (k : Keep wd H1 H) {p : Addr} {o : HO} (h : H1 p = none) : Keep wd H1 (upd H p o) := by
  refine ⟨fun a u q n t => ?_, fun a q => ?_⟩
  · rw [upd_ne (fun z => by rw [z, h] at q; cases q)]
    exact k.st a u q n t
  · by_cases ha : a = p
    · subst ha
      exact Nt.of h
    · exact k.dm a (q.upd ha)
end
end Pd

namespace Pd
open PySem PySem.Spec PyProof.Rows L2 LamX
def kD : Key → D
  | .inl n => .int n
  | .inr s => .str s
section
variable {X : Cx} {T : List (Addr × Str)} {E : XK} {k : Nat}
end
end Pd

namespace Pd
open PySem PySem.Spec PyProof.Rows L2 LamX
section
variable {κ : Type} [DecidableEq κ] {K : PySem.W.Frag} {wd : Wd}
def putG (ks : List (κ × D)) (k : κ) (d : D) : List (κ × D) := if (ks.any fun kv => decide (kv.1 = k)) = true then ks.map (fun kv => if kv.1 = k then (kv.1, d) else kv) else ks ++ [(k, d)]
def lookG (ds : List (κ × D)) (k : κ) : Option D := (ds.find? fun kv => decide (kv.1 = k)).map (·.2)
theorem any_keysG {k : κ} : ∀ {vs : List (κ × V)} {ds : List (κ × D)}, vs.map (·.1) = ds.map (·.1) → (vs.any fun kv => decide (kv.1 = k)) = ds.any fun kv => decide (kv.1 = k)
  | [], [], _ => rfl
  | [], _ :: _, e => by simp at e
  | _ :: _, [], e => by simp at e
  | (a, v) :: vs, (b, d) :: ds, e => by
    rw [List.map_cons, List.map_cons] at e
    obtain ⟨e1, e2⟩ := List.cons.inj e
    have e1 : a = b := e1
    rw [List.any_cons, List.any_cons, any_keysG e2]
    show (decide (a = k) || _) = (decide (b = k) || _)
    rw [e1]
theorem put_mapG {k : κ} {v : V} {d : D} (rv : Rep K wd v d) : ∀ {vs : List (κ × V)} {ds : List (κ × D)}, vs.map (·.1) = ds.map (·.1) → Reps K wd (vs.map (·.2)) (ds.map (·.2)) →
    (vs.map fun kv => if kv.1 = k then (kv.1, v) else kv).map (·.1) = (ds.map fun kv => if kv.1 = k then (kv.1, d) else kv).map (·.1) ∧ Reps K wd ((vs.map fun kv => if kv.1 = k then (kv.1, v) else kv).map (·.2)) ((ds.map fun kv => if kv.1 = k then (kv.1, d) else kv).map (·.2))
  | [], [], _, _ => ⟨rfl, .nil⟩
  | [], _ :: _, e, _ => by simp at e
  | _ :: _, [], e, _ => by simp at e
  | (a, x) :: vs, (b, y) :: ds, e, r => by
    rw [List.map_cons, List.map_cons] at e
    obtain ⟨e1, e2⟩ := List.cons.inj e
    have e1 : a = b := e1
    cases r with
    | cons r1 r2 =>
      obtain ⟨i1, i2⟩ := put_mapG rv e2 r2
      subst e1
      by_cases h : a = k
      · simp only [List.map_cons, h, if_true]
        exact ⟨by rw [i1], .cons rv i2⟩
      · simp only [List.map_cons, h, if_false]
        exact ⟨by rw [i1], .cons r1 i2⟩
theorem put_repsG {k : κ} {v : V} {d : D} (rv : Rep K wd v d) {vs : List (κ × V)} {ds : List (κ × D)} (e : vs.map (·.1) = ds.map (·.1)) (r : Reps K wd (vs.map (·.2)) (ds.map (·.2))) :
    (putK vs k v).map (·.1) = (putG ds k d).map (·.1) ∧ Reps K wd ((putK vs k v).map (·.2)) ((putG ds k d).map (·.2)) := by
  unfold putK putG
  rw [any_keysG e]
  split
  · exact put_mapG rv e r
  · rw [List.map_append, List.map_append, List.map_append, List.map_append, e]
    exact ⟨rfl, r.snoc rv⟩
theorem look_repsG {k : κ} : ∀ {vs : List (κ × V)} {ds : List (κ × D)}, vs.map (·.1) = ds.map (·.1) → Reps K wd (vs.map (·.2)) (ds.map (·.2)) → ∀ z, lookG ds k = some z → ∃ v, valV vs k = some v ∧ Rep K wd v z
  | [], [], _, _, z, h => by cases h
  | (a, v) :: vs, (b, d) :: ds, e, r, z, h => by
    have e1 : a = b := by simpa using (List.cons.inj e).1
    subst e1
    cases r with
    | cons r0 r1 =>
      unfold lookG at h
      unfold valV
      rw [List.find?_cons] at h ⊢
      by_cases hk : a = k
      · have : decide (a = k) = true := decide_eq_true hk
        simp only [this] at h ⊢
        cases h
        exact ⟨v, rfl, r0⟩
      · have : decide (a = k) = false := decide_eq_false hk
        simp only [this] at h ⊢
        exact look_repsG (List.cons.inj e).2 r1 z h
  | [], _ :: _, e, _, _, _ => by cases e
  | _ :: _, [], e, _, _, _ => by cases e
end
def iK (ns : List Int) : List Key := ns.map Sum.inl
theorem iK_V (ns : List Int) : (iK ns).map kV = ns.map V.int := by
  unfold iK
  rw [List.map_map]
  rfl
def keyT (k : List Key) : D := .tup (k.map kD)
def dcuIs (env : PEnv) (i : Nat) (P : List (List Key × D) → Prop) : Prop := match gt env i with
  | some (.dct none (.t ks)) => P ks
  | _ => False
theorem dcuIs_inv {env : PEnv} {i : Nat} {P : List (List Key × D) → Prop} (h : dcuIs env i P) : ∃ ks, gt env i = some (.dct none (.t ks)) ∧ P ks := by
  unfold dcuIs at h
  split at h
  · rename_i ks e
    exact ⟨ks, e, h⟩
  · exact h.elim
section
variable {K : PySem.W.Frag} {T : List (Addr × Str)} {c : Ctx} {wd wd' : Wd} {env env' : PEnv} {σ σ' : L2.St} {H H' : Hp}
end
section
variable {X : Cx} {T : List (Addr × Str)} {E : XK} {k : Nat} {x : Str} {y e : Expr} {p1 p2 pos pos' apos : Pos}
def tFrz (t : TE) : TE := fun σ H Q => t σ H fun x H1 => ∃ d u, x = .ref d ∧ H1 d = some u ∧ Mut (some u) ∧ ∀ od, Q x (upd H1 d (.frz od u))
theorem pe_frz {t : TE} (h : PE X e t) : PE X e (tFrz t) := by
  refine ⟨fun pins s σ H Q I hw => ?_⟩
  refine thn (h.run pins s σ H _ I hw) fun v s1 q => ?_
  obtain ⟨x, H1, I1, r, d, u, ex, hd, mu, q⟩ := q
  obtain ⟨od, I2⟩ := I1.lock hd mu
  exact ⟨x, _, I2, r, q od⟩
end
end Pd

namespace Zd
open PySem PySem.Spec PyProof.Rows L2
def putAll (acc kvs : List (List Key × V)) : List (List Key × V) := kvs.foldl (fun acc kv => putK acc kv.1 kv.2) acc
theorem kt_all {H : Hp} : ∀ {kvs : List (List Key × V)} {qs : List (List Key × Addr × Value)}, KT H kvs qs → ∀ {acc : List (List Key × V)} {xs : List (List Key × Addr × Value)}, KT H acc xs → KT H (putAll acc kvs) (storedAllH xs qs)
  | _, _, .nil, _, _, r => r
  | _, _, .cons (a := p) (b := q) h t, acc, xs, r => by
    obtain ⟨h1, h2, h3⟩ := h
    have r2 := r.put (k := p.1) h2 h3
    have := kt_all t r2
    show KT H (putAll (putK acc p.1 p.2) _) (storedAllH (storedH xs q.1 q.2.1 q.2.2) _)
    rw [← h1]
    exact this
section
variable {X : Cx}
theorem pairs_in {pins : List (Addr × Obj)} {σ : L2.St} {H : Hp} {s : Shared} (I : Inv X pins σ H s) : ∀ {ps : List Addr} {kvs : List (List Key × V)}, Paired (fun p kv => ∃ b, SqT X.K H p [.ref b, kv.2] ∧ H b = some (.tup (kv.1.map kV))) ps kvs →
    ∃ qs : List (List Key × Addr × Value), KT H kvs qs ∧ qs.length = ps.length ∧ ∀ (j : Nat) (q : List Key × Addr × Value), qs[j]? = some q → ∃ p : Addr, ps[j]? = some p ∧ IsTup s.heap p #[.ref q.2.1, q.2.2]
  | _, _, .nil => ⟨[], .nil, rfl, fun j q e => by simp at e⟩
  | _, _, .cons (a := p) (b := kv) h t => by
    obtain ⟨qs, r, hl, hq⟩ := pairs_in I t
    obtain ⟨b, h1, h2⟩ := h
    obtain ⟨its, rv, ht, _⟩ := I.tuple h1
    obtain ⟨u, y, ei, ru, ry⟩ := vals2 rv
    subst ei
    cases ru
    refine ⟨(kv.1, b, y) :: qs, .cons ⟨rfl, h2, ry⟩ r, by rw [List.length_cons, List.length_cons, hl], fun j q e => ?_⟩
    cases j with
    | zero =>
      obtain rfl : (kv.1, b, y) = q := Option.some.inj e
      exact ⟨p, rfl, ht⟩
    | succ j =>
      obtain ⟨p', e1, e2⟩ := hq j q (by simpa using e)
      exact ⟨p', by simpa using e1, e2⟩
theorem key_in {pins : List (Addr × Obj)} {σ : L2.St} {H : Hp} {s : Shared} (I : Inv X pins σ H s) {b : Addr} {k : List Key} (h : H b = some (.tup (k.map kV))) : ∃ its : List Value, IsTup s.heap b its.toArray ∧ ItemsAre (mixKind X.prog X.w) k its := by
  obtain ⟨its, rv, ht, _⟩ := I.tuple (.inl (.inl h))
  exact ⟨its, ht, items_are rv⟩
theorem paired_mem {α β : Type} {F : α → β → Prop} : ∀ {l : List α} {m : List β}, Paired F l m → ∀ y ∈ m, ∃ x ∈ l, F x y
  | _, _, .nil, y, h => by cases h
  | _, _, .cons h t, y, hy => by
    rcases List.mem_cons.mp hy with rfl | hy
    · exact ⟨_, List.mem_cons_self, h⟩
    · obtain ⟨x, hx, hf⟩ := paired_mem t y hy
      exact ⟨x, List.mem_cons_of_mem _ hx, hf⟩
theorem call_dictT (hc : X.calm = true) (hu : X.A.units + 2 < cLine) : CallR X (.type "dict") (fun xs H Q => ∃ (a : Addr) (ps : List Addr) (kvs : List (List Key × V)), xs = [.ref a] ∧ SqL X.K H a (ps.map V.ref) ∧ Paired (fun p kv => ∃ b, SqT X.K H p [.ref b, kv.2] ∧ H b = some (.tup (kv.1.map kV))) ps kvs ∧
    ∀ p, H p = none → Q (.ref p) (upd H p (.dT (putAll [] kvs)))) := by
  intro pins s σ H xs us Q I r q
  obtain ⟨a, ps, kvs, ex, hq, hp, q⟩ := q
  subst ex
  obtain ⟨u, eu, rx⟩ := vals1 r
  subst eu
  cases rx
  obtain ⟨its, rv, pl, hz⟩ := I.list hq
  have ei := refs_at rv
  subst ei
  rw [List.length_map] at hz
  obtain ⟨qs, rel, hl, hqs⟩ := pairs_in I hp
  have ar := PairArg.list (prog := X.prog) (w := X.w) a (ps.map Value.ref).toArray (fun j => ps.getD j 0) (qs.map fun q => (Value.ref q.2.1, q.2.2))
  refine PySem.call_dict_pairsH (knd := tupleKind (mixKind X.prog X.w)) (ps := qs) ar (I.ok.hd hc) (show X.A.in1.in1.units < cLine from hu) ⟨pl, ?_, fun j k v e => ?_⟩ ⟨by rw [List.length_map], fun i key v e => ?_⟩ (fun h' hk x hx => ?_) (by rw [List.length_map, hl]; exact hz) fun h' tk hd' hk => ?_
  · simp [hl]
  · rw [List.getElem?_map] at e
    cases e0 : qs[j]? with
    | none =>
      rw [e0] at e
      cases e
    | some q0 =>
      rw [e0] at e
      obtain ⟨p, e1, e2⟩ := hqs j q0 e0
      obtain ⟨rfl, rfl⟩ : Value.ref q0.2.1 = k ∧ q0.2.2 = v := Prod.ext_iff.mp (Option.some.inj e)
      have e3 : ps.getD j 0 = p := by rw [List.getD_eq_getElem?_getD, e1]; rfl
      refine ⟨by simp [e1, e3], ?_⟩
      show PairAt s.heap (ps.getD j 0) _ _
      rw [e3]
      obtain ⟨o, h1, h2, h3, h4⟩ := e2
      exact .inl ⟨o, h1, h2, h3, h4⟩
  · have e : (qs.map fun q => (Value.ref q.2.1, q.2.2))[i]? = some (key, v) := e
    rw [List.getElem?_map] at e
    cases e0 : qs[i]? with
    | none =>
      rw [e0] at e
      cases e
    | some q0 =>
      rw [e0] at e
      obtain ⟨rfl, rfl⟩ : Value.ref q0.2.1 = key ∧ q0.2.2 = v := Prod.ext_iff.mp (Option.some.inj e)
      exact ⟨q0.1, q0.2.1, rfl, rfl⟩
  · obtain ⟨kv, _, h1, h2, _⟩ := paired_mem rel x hx
    obtain ⟨its, z1, z2⟩ := key_in I h2
    rw [h1] at z2
    obtain ⟨o, y1, y2, n, y3⟩ := z1
    exact ⟨o, its.toArray, n, hk _ _ (Nat.ne_of_lt (Heap.lt_size y1)) (by simp) y1, y2, y3, z2⟩
  · have hm : (s.heap.objs.size == sysModules) = false := beq_eq_false_iff_ne.mpr (Nat.ne_of_gt I.big)
    have kt : KT H (putAll [] kvs) (storedAllH [] qs) := kt_all rel .nil
    have fresh : H s.heap.objs.size = none := I.hok.fresh (Nat.le_refl _)
    have kt2 : KT (upd H s.heap.objs.size (.dT (putAll [] kvs))) (putAll [] kvs) (storedAllH [] qs) := kt.keeps fun b ys e => by
      rw [upd_ne (fun z => by rw [z, fresh] at e; cases e)]
      exact e
    have few : (putAll [] kvs).length ≤ sizeLine := by
      rw [kt.length]
      refine Nat.le_trans (storedAllH_length qs []) ?_
      rw [List.length_nil, Nat.zero_add, hl]
      exact hz
    obtain ⟨o, es, ep, d1, d2, d3, d4, _, d6⟩ := hd'
    refine ⟨.ref s.heap.objs.size, _, I.laid (o := .dT (putAll [] kvs)) (t' := tk) (fun b o e => hk b o (by simp) e) (Nat.le_refl _) ⟨few, hm, _, kt2, o, es, ep, d1, d2, d3, d4, d6⟩, rfl, q _ fresh⟩
end
end Zd
namespace Pd
open PySem PySem.Spec PyProof.Rows L2
def putAllG {κ : Type} [DecidableEq κ] (acc kvs : List (κ × D)) : List (κ × D) := kvs.foldl (fun acc kv => putG acc kv.1 kv.2) acc
section
variable {K : PySem.W.Frag} {wd : Wd}
theorem putAll_reps : ∀ {vs : List (List Key × V)} {ds : List (List Key × D)}, vs.map (·.1) = ds.map (·.1) → Reps K wd (vs.map (·.2)) (ds.map (·.2)) → ∀ {as : List (List Key × V)} {bs : List (List Key × D)}, as.map (·.1) = bs.map (·.1) → Reps K wd (as.map (·.2)) (bs.map (·.2)) →
    (Zd.putAll as vs).map (·.1) = (putAllG bs ds).map (·.1) ∧ Reps K wd ((Zd.putAll as vs).map (·.2)) ((putAllG bs ds).map (·.2))
  | [], [], _, _, _, _, e, r => ⟨e, r⟩
  | [], _ :: _, e, _, _, _, _, _ => by cases e
  | _ :: _, [], e, _, _, _, _, _ => by cases e
  | (k, v) :: vs, (k', d) :: ds, e, r, as, bs, e', r' => by
    rw [List.map_cons, List.map_cons] at e
    obtain ⟨e1, e2⟩ := List.cons.inj e
    have e1 : k = k' := e1
    subst e1
    cases r with
    | cons r1 r2 =>
      obtain ⟨a, b⟩ := put_repsG (k := k) r1 e' r'
      exact putAll_reps e2 r2 a b
theorem pairs_of_data {T : List (Addr × Str)} {H : Hp} (g : Good T wd H) : ∀ {ws : List V} {kvs : List (List Int × D)}, Reps K wd ws (kvs.map fun kv => D.tup [keyT (iK kv.1), kv.2]) →
    ∃ (ps : List Addr) (vs : List (List Key × V)), ws = ps.map V.ref ∧ Paired (fun p kv => ∃ b, SqT K H p [.ref b, kv.2] ∧ H b = some (.tup (kv.1.map kV))) ps vs ∧ vs.map (·.1) = kvs.map (fun kv => iK kv.1) ∧ Reps K wd (vs.map (·.2)) (kvs.map (·.2))
  | _, [], r => by
    cases r
    exact ⟨[], [], rfl, .nil, rfl, .nil⟩
  | _, (ns, d) :: kvs, r => by
    rw [List.map_cons] at r
    cases r with
    | cons r1 r2 =>
      obtain ⟨ps, vs, e1, e2, e3, e4⟩ := pairs_of_data g r2
      subst e1
      cases r1 with
      | tup h hs =>
        cases hs with
        | cons k1 hs =>
          cases hs with
          | cons v1 hs =>
            cases hs
            have k1 : Rep K wd _ (.tup ((iK ns).map kD)) := k1
            have ek : (iK ns).map kD = ns.map D.int := by
              unfold iK
              rw [List.map_map]
              rfl
            rw [ek] at k1
            cases k1 with
            | tup hk rk =>
              rw [rk.ints] at hk
              refine ⟨_ :: ps, (iK ns, _) :: vs, rfl, .cons ⟨_, .inl (.inl (g.sub _ _ h)), ?_⟩ e2, ?_, .cons v1 e4⟩
              · show H _ = some (.tup ((iK ns).map kV))
                rw [iK_V]
                exact g.sub _ _ hk
              · rw [List.map_cons, List.map_cons, e3]
end
section
variable {X : Cx} {T : List (Addr × Str)} {E : XK} {k : Nat} {x : Str} {y e : Expr} {p1 p2 pos pos' apos : Pos}
def wDictT (a : W D) : W D := a.bind fun x env Q _ => ∃ kvs : List (List Int × D), x = .lst (kvs.map fun kv => D.tup [keyT (iK kv.1), kv.2]) ∧ Q (.dit (putAllG [] (kvs.map fun kv => (iK kv.1, kv.2)))) env
theorem noTb_frz {o : Obj} {u : HO} : noTb (.frz o u) := fun _ h => nomatch h
theorem je_dictT {a : W D} {p pos : Pos} (B : Bd X E k) (hm : X.mg "dict" = none) (ha : JE T X E e a) (hg : Gl X "dict" := by rfl) (na : starEach [e] X.env = (false, eval e X.env) :: starEach [] X.env := by rfl) (hpl : (backTo pos (starEach [] X.env)).any (·.1) = false := by rfl) :
    JE T X E (.Call (.Name "dict" p) [e] [] pos) (wDictT a) :=
  peI (pe_frz (pe_callTy (Zd.call_dictT B.calm (by have := B.room.un; omega)) hg hm (by decide +kernel) (pa_cons ha pa_nil na) (by decide) (by decide) na hpl)) fun σ H Q ⟨c, wd, env, P, Ex, r, h, xo, kk⟩ => ⟨c, wd, env, _, Ex, r, h, xo, fun x env1 h1 v wd1 H1 le1 r1 rp1 => by
    obtain ⟨kvs, rfl, h2⟩ := h1
    cases rp1 with
    | lst hl rl =>
      obtain ⟨ps, vs, e1, e2, e3, e4⟩ := pairs_of_data r1.good rl
      subst e1
      refine ⟨_, ps, vs, rfl, .inl (.inl (r1.good.sub _ _ hl)), e2, fun p hp => ⟨p, _, rfl, upd_same, trivial, fun od => ?_⟩⟩
      rw [upd_upd]
      have g : Grow wd1 H1 (wd1.add p (.frz od (.dT (Zd.putAll [] vs)))) (upd H1 p (.frz od (.dT (Zd.putAll [] vs)))) := Grow.one hp noTb_frz trivial
      have le2 : Le wd1 (wd1.add p (.frz od (.dT (Zd.putAll [] vs)))) := Le.add (r1.good.mnone hp)
      have em : vs.map (·.1) = (kvs.map fun kv => (iK kv.1, kv.2)).map (·.1) := by rw [e3, List.map_map]; rfl
      have er : Reps X.K (wd1.add p (.frz od (.dT (Zd.putAll [] vs)))) (vs.map (·.2)) ((kvs.map fun kv => (iK kv.1, kv.2)).map (·.2)) := by
        rw [List.map_map]
        exact e4.mono le2
      obtain ⟨q1, q2⟩ := putAll_reps em er (as := []) (bs := []) rfl .nil
      exact kk _ env1 h2 (.ref p) _ _ (le1.trans le2) (r1.grow g) (.dit upd_same q1 q2)⟩
end
end Pd

namespace Zd
open PySem PySem.Spec PyProof.Rows L2 Zn L2.DX
section
variable {prog : Program} {w : World} {A : Around} {E : Value → Shared → Prop} {s : Shared}
end
section
variable {X : Cx}
end
end Zd
namespace Zd
open PySem PySem.Spec PyProof.Rows L2 Zn L2.DX
section
variable {X : Cx} {o : Expr} {to : TE} {apos cpos : Pos}
end
end Zd
namespace Pd
open PySem PySem.Spec PyProof.Rows L2 Zn L2.DX
section
variable {X : Cx} {T : List (Addr × Str)} {E : XK} {k : Nat} {o : Expr} {p pos apos cpos : Pos}
end
end Pd

namespace Zd
open PySem PySem.Spec PyProof.Rows L2 Zn L2.DX
structure Ent (o : Obj) (es : Array DictEntry) (ep : Nat) (bs : List Addr) : Prop where
  data : o.data = .dict es ep
  len : bs.length = es.size
  key : ∀ (i : Nat) (en : DictEntry), es[i]? = some en → ∃ b, bs[i]? = some b ∧ en.key = .ref b
section
variable {X : Cx} {pins : List (Addr × Obj)} {σ : L2.St} {H : Hp} {s : Shared} {d : Addr} {o : Obj} {kvs : List (List Key × V)}
theorem held (I : Inv X pins σ H s) (h : H d = some (.frz o (.dT kvs))) : s.heap.get? d = some o ∧ (d == sysModules) = false ∧ o.ExactDict ∧ kvs.length ≤ sizeLine ∧ ∃ (es : Array DictEntry) (ep : Nat) (bs : List Addr), Ent o es ep bs ∧ es.size = kvs.length ∧ IsKeys H kvs bs ∧
    ∀ (i : Nat) (en : DictEntry), es[i]? = some en → ∃ k v, kvs[i]? = some (k, v) ∧ RelV v en.val := by
  obtain ⟨at_, z, hs, xs, pr, o', es, ep, ho, hx, hdt, he, _⟩ := I.hok d _ h
  obtain rfl : o = o' := Option.some.inj (at_.symm.trans ho)
  have sz : es.size = xs.length := size_of_entries he
  have lk : kvs.length = xs.length := Paired.length pr
  have en_at : ∀ (i : Nat) (en : DictEntry), es[i]? = some en → ∃ x, xs[i]? = some x ∧ entryOfKey (tupleKind (mixKind X.prog X.w)) x = en := fun i en e => by
    rw [entry_at he i] at e
    cases q : xs[i]? with
    | none =>
      rw [q] at e
      cases e
    | some x =>
      rw [q] at e
      exact ⟨x, rfl, Option.some.inj e⟩
  refine ⟨at_, hs, hx, z, es, ep, xs.map fun x => x.2.1, ⟨hdt, by rw [List.length_map, sz], fun i en e => ?_⟩, by omega, isKeys_of pr, fun i en e => ?_⟩
  · obtain ⟨x, e1, rfl⟩ := en_at i en e
    exact ⟨x.2.1, by rw [List.getElem?_map, e1]; rfl, rfl⟩
  · obtain ⟨x, e1, rfl⟩ := en_at i en e
    obtain ⟨p, e2, _, _, r⟩ := pget pr e1
    exact ⟨p.1, p.2, e2, r⟩
end
end Zd
namespace Zd
open PySem PySem.Spec PyProof.Rows L2 Zn L2.DX
section
variable {X : Cx} {e : Expr} {td : TE} {elts : List Expr} {kk : Nat} {tpos apos cpos : Pos}
end
end Zd
namespace Pd
open PySem PySem.Spec PyProof.Rows L2 Zn L2.DX
section
variable {X : Cx} {T : List (Addr × Str)} {E : XK} {e : Expr} {elts : List Expr} {kk : Nat} {tpos apos cpos : Pos}
end
end Pd

namespace Zd
open PySem PySem.Spec PyProof.Rows L2
section
variable {X : Cx}
def prsV (kvs : List (List Key × V)) (bs : List Addr) : List (V × V) := List.zipWith (fun kv b => (V.ref b, kv.2)) kvs bs
def tDispT (trs : List (TE × TE)) : TE := fun σ H Q => ∀ p, H p = none → tPairs trs σ (upd H p (.dT [])) fun ps H2 => H2 p = some (.dT []) ∧ ∃ (kvs : List (List Key × V)) (bs : List Addr), ps = prsV kvs bs ∧ Paired (fun kv b => H2 b = some (.tup (kv.1.map kV))) kvs bs ∧ kvs.length ≤ 15 ∧
  Q (.ref p) (upd H2 p (.dT (putAll [] kvs)))
theorem carries_in {pins : List (Addr × Obj)} {σ : L2.St} {H : Hp} {s : Shared} (I : Inv X pins σ H s) : ∀ {kvs : List (List Key × V)} {bs : List Addr} {ws : List (Value × Value)}, Paired (fun kv b => H b = some (.tup (kv.1.map kV))) kvs bs → VV (prsV kvs bs) ws →
    ∃ qs : List (List Key × Addr × Value), CarriesH (tupleKind (mixKind X.prog X.w)) s.heap ws qs ∧ KT H kvs qs
  | _, _, _, .nil, r => by
    cases r
    exact ⟨[], trivial, .nil⟩
  | _, _, _, .cons (a := kv) (b := b) h t, r => by
    cases r with
    | @cons a w as ws r1 r2 =>
      obtain ⟨qs, c, k⟩ := carries_in I t r2
      obtain ⟨r3, r4⟩ := r1
      obtain ⟨u, y⟩ := w
      obtain rfl : u = Value.ref b := r3
      obtain ⟨its, ⟨o, y1, y2, n, y3⟩, z2⟩ := key_in I h
      exact ⟨(kv.1, b, y) :: qs, ⟨rfl, rfl, ⟨o, its.toArray, n, y1, y2, y3, z2⟩, c⟩, .cons ⟨rfl, h, r4⟩ k⟩
theorem pe_dispT {pos : Pos} {keys : List (Option Expr)} {values : List Expr} {trs : List (TE × TE)} (hu : X.A.units < cLine) (h : PPs X pos keys values trs) (hall : keys.all (·.isSome) = true) (hl : keys.length = values.length) (h0 : keys ≠ [])
    (h15 : keys.length ≤ 15) : PE X (.Dict keys values pos) (tDispT trs) := by
  refine ⟨fun pins s σ H Q I q => ?_⟩
  have hn := I.hok.fresh (Nat.le_refl s.heap.objs.size)
  have I1 := I.laid (a := s.heap.objs.size) (o := .dT []) (h' := s.heap.push { cls := .type "dict", data := .dict #[] }) (t' := s.toks) (fun _ _ q => Heap.get?_push_of_some _ q) (Nat.le_refl _) (dt_empty s.heap I.big)
  refine wpAny_Dict_any hall hl h0 h15 (thn (h.run pins _ σ _ _ I1 (q _ hn)) fun ws s2 ⟨ps, H2, I2, rel, e, kvs, bs, ep, hk, lk, q2⟩ => ?_)
  subst ep
  obtain ⟨qs, c, kt⟩ := carries_in I2 hk rel
  obtain ⟨z, hd, xs0, r0, dd⟩ := dt_of I2.hok e
  cases r0
  have lq : qs.length ≤ 15 := by rw [← kt.length]; exact lk
  refine wpAny_storeAllH (knd := tupleKind (mixKind X.prog X.w)) hu ws qs [] s2 _ c dd (by rw [sizeLine_eq, List.length_nil]; omega) fun h' tk dd' hs => ?_
  have kt1 : KT H2 (putAll [] kvs) (storedAllH [] qs) := kt_all kt .nil
  have few : (putAll [] kvs).length ≤ sizeLine := by
    rw [kt1.length]
    have := storedAllH_length qs []
    rw [List.length_nil] at this
    rw [sizeLine_eq]
    omega
  have kt2 : KT (upd H2 s.heap.objs.size (.dT (putAll [] kvs))) (putAll [] kvs) (storedAllH [] qs) := kt1.keeps fun b ys z => by
    rw [upd_ne (fun y => by rw [y, e] at z; cases z)]
    exact z
  have he : ∃ q, h'.get? s.heap.objs.size = some q := let ⟨q, _, _, hq, _⟩ := dd'; ⟨q, hq⟩
  obtain ⟨o, es, ep, d1, d2, d3, d4, _, d6⟩ := dd'
  exact ⟨.ref s.heap.objs.size, _, d_write (ob := .dT (putAll [] kvs)) I2 (by rw [e]; exact True.intro) hs he ⟨few, hd, _, kt2, o, es, ep, d1, d2, d3, d4, d6⟩, rfl, q2⟩
end
end Zd

namespace Pd
open PySem PySem.Spec PyProof.Rows L2 LamX
section
variable {K : PySem.W.Frag} {wd : Wd}
theorem val_none {k : List Key} : ∀ {vs : List (List Key × V)} {ds : List (List Key × D)}, vs.map (·.1) = ds.map (·.1) → lookG ds k = none → valV vs k = none
  | [], _, _, _ => rfl
  | _ :: _, [], e, _ => by cases e
  | (a, v) :: vs, (b, d) :: ds, e, h => by
    rw [List.map_cons, List.map_cons] at e
    obtain ⟨e1, e2⟩ := List.cons.inj e
    have e1 : a = b := e1
    subst e1
    unfold lookG at h
    rw [List.find?_cons] at h
    by_cases hk : a = k
    · have : decide (a = k) = true := decide_eq_true hk
      simp only [this] at h
      cases h
    · have : decide (a = k) = false := decide_eq_false hk
      simp only [this] at h
      have h3 := val_none e2 h
      unfold valV at h3 ⊢
      rw [List.find?_cons]
      simp only [this]
      exact h3
end
section
variable {X : Cx} {T : List (Addr × Str)} {E : XK} {k : Nat} {x : Str} {o e f : Expr} {p1 apos cpos : Pos}
end
end Pd

namespace Pd
open PySem PySem.Spec PyProof.Rows L2 LamX
section
variable {X : Cx} {T : List (Addr × Str)} {E : XK} {k : Nat} {x y : Str} {p1 p2 p3 pos pos' : Pos}
end
end Pd

namespace Pd
open PySem PySem.Spec PyProof.Rows L2 LamX
section
variable {X : Cx} {T : List (Addr × Str)} {E : XK} {k : Nat}
end
end Pd

namespace Pd
open PySem PySem.Spec PyProof.Rows L2 LamX
section
variable {X : Cx} {T : List (Addr × Str)} {E : XK} {k : Nat}
end
end Pd

namespace Zn
open PySem
section
variable {prog : Program} {w : World} {A : Around} {E : Value → Shared → Prop} {s : Shared}
end
end Zn

namespace Zn
open PySem PySem.Spec PyProof.Rows L2
section
variable {prog : Program} {w : World} {A : Around} {E : Value → Shared → Prop} {s : Shared}
end
inductive RefsK (K : PySem.W.Frag) (H : Hp) : List (Nat × Bool) → List (List V) → Prop
  | nil : RefsK K H [] []
  | cons {a : Nat} {t : Bool} {xs : List V} {as : List (Nat × Bool)} {xss : List (List V)} : SqK K t H a xs → RefsK K H as xss → RefsK K H ((a, t) :: as) (xs :: xss)
theorem RefsK.length {K : PySem.W.Frag} {H : Hp} : ∀ {as : List (Nat × Bool)} {xss : List (List V)}, RefsK K H as xss → as.length = xss.length
  | _, _, .nil => rfl
  | _, _, .cons _ t => congrArg (· + 1) t.length
section
variable {X : Cx} {pins : List (Addr × Obj)} {σ : L2.St} {H : Hp} {s : Shared}
end
structure TnN (b : Nat) (as : List (Nat × Bool)) (i : Nat) (h : Heap) : Prop where
  ti : IsTupN h (b + as.length) (itsN b as.length)
  it : ∀ (j a : Nat) (t : Bool), as[j]? = some (a, t) → ItK h t (b + j) a i
  ot : ∃ os : Array Value, IsTupN h (b + as.length + 1) os ∧ os.size = as.length
  z : IsZ h (b + as.length + 2) (b + as.length) (b + as.length + 1) .none false ∨ ∃ (T : Nat) (f : Bool), IsZ h (b + as.length + 2) (b + as.length) (b + as.length + 1) (rawInt T) f ∧ b + as.length + 2 < T
theorem TnN.typ {b i : Nat} {as : List (Nat × Bool)} {s : Shared} (st : TnN b as i s.heap) : s.TypeIs (.ref (b + as.length + 2)) "zip" := by
  rcases st.z with h | ⟨T, f, h, _⟩
  · exact ⟨_, h, rfl⟩
  · exact ⟨_, h, rfl⟩
theorem TnN.lt {b i : Nat} {as : List (Nat × Bool)} {h : Heap} (st : TnN b as i h) : b + as.length + 2 < h.objs.size := by
  rcases st.z with h | ⟨T, f, h, _⟩
  · exact Heap.lt_size h
  · exact Heap.lt_size h
section
variable {prog : Program} {w : World} {A : Around} {E : Value → Shared → Prop} {s : Shared}
end
end Zn

namespace Zn
open PySem PySem.Spec PyProof.Rows L2
end Zn
namespace Pd
open PySem PySem.Spec PyProof.Rows L2 LamX Zn
section
variable {X : Cx} {T : List (Addr × Str)} {E : XK} {k : Nat}
end
end Pd

namespace Pd
open PySem PySem.Spec PyProof.Rows L2 LamX Zn
section
variable {X : Cx} {T : List (Addr × Str)} {E : XK} {k : Nat}
end
end Pd
namespace Zn
open PySem PySem.Spec PyProof.Rows L2
end Zn
namespace Pd
open PySem PySem.Spec PyProof.Rows L2 LamX Zn
section
variable {X : Cx} {T : List (Addr × Str)} {E : XK} {k : Nat}
end
end Pd

namespace Pd
open PySem PySem.Spec PyProof.Rows L2 LamX
section
variable {X : Cx} {T : List (Addr × Str)} {E : XK} {k : Nat} {o e y : Expr} {pos : Pos}
end
end Pd

namespace Zd
open PySem PySem.Spec PyProof.Rows L2
def hT (ns : List Int) : Int := reduceHash (Builtin.Tuple.tupleHashOf (ns.map hashInt))
theorem hash_iK (P : Program) (w : World) (ns : List Int) : (tupleKind (mixKind P w)).hash (Pd.iK ns) = hT ns := by
  show reduceHash (Builtin.Tuple.tupleHashOf ((Pd.iK ns).map (keyH w))) = _
  unfold Pd.iK hT
  rw [List.map_map]
  rfl
theorem iK_one : ∀ {a b : List Int}, Pd.iK a = Pd.iK b → a = b
  | [], [], _ => rfl
  | [], _ :: _, h => by cases h
  | _ :: _, [], h => by cases h
  | x :: a, y :: b, h => by
    have h1 := List.cons.inj h
    rw [Sum.inl.inj h1.1, iK_one (show Pd.iK a = Pd.iK b from h1.2)]
section
variable {X : Cx}
theorem kt_keys {H : Hp} : ∀ {kvs : List (List Key × V)} {ys : List (List Key × Addr × Value)}, KT H kvs ys → ys.map (·.1) = kvs.map (·.1)
  | _, _, .nil => rfl
  | _, _, .cons h t => by
    rw [List.map_cons, List.map_cons, kt_keys t, h.1]
end
end Zd

namespace Ph
open PySem PySem.Spec PyProof.Rows L2 LamX Pd
def insD (x : Int) : List Int → List Int
  | [] => [x]
  | y :: l => if y ≤ x then x :: y :: l else y :: insD x l
def srt (l : List Int) : List Int := l.foldr insD []
theorem insD_perm (x : Int) : ∀ l : List Int, (insD x l).Perm (x :: l)
  | [] => List.Perm.refl _
  | y :: l => by
    unfold insD
    split
    · exact List.Perm.refl _
    · exact ((insD_perm x l).cons y).trans (List.Perm.swap x y l)
theorem insD_falls (x : Int) : ∀ {l : List Int}, l.Pairwise (fun a b => b ≤ a) → (insD x l).Pairwise fun a b => b ≤ a
  | [], _ => List.pairwise_singleton _ _
  | y :: l, h => by
    obtain ⟨h1, h2⟩ := List.pairwise_cons.mp h
    unfold insD
    by_cases c : y ≤ x
    · rw [if_pos c]
      refine List.pairwise_cons.mpr ⟨fun z hz => ?_, h⟩
      rcases List.mem_cons.mp hz with rfl | hz
      · exact c
      · have := h1 z hz
        omega
    · rw [if_neg c]
      refine List.pairwise_cons.mpr ⟨fun z hz => ?_, insD_falls x h2⟩
      rcases List.mem_cons.mp ((insD_perm x l).mem_iff.mp hz) with rfl | hz
      · omega
      · exact h1 z hz
theorem srt_perm : ∀ l : List Int, (srt l).Perm l
  | [] => List.Perm.refl _
  | x :: l => (insD_perm x (srt l)).trans ((srt_perm l).cons x)
theorem srt_falls : ∀ l : List Int, (srt l).Pairwise fun a b => b ≤ a
  | [] => List.Pairwise.nil
  | x :: l => insD_falls x (srt_falls l)
theorem dn_srt (l : List Int) : dn l = srt l := dn_of (srt_perm l) (srt_falls l)
def rws : Nat → Nat → Nat → List (List Int)
  | 0, 0, _ => [[]]
  | 0, _ + 1, _ => []
  | n + 1, t, top => (List.range (min t top + 1)).flatMap fun e => (rws n (t - e) e).map fun r => (e : Int) :: r
theorem mem_rws : ∀ {n t top : Nat} {r : List Int}, r ∈ rws n t top ↔ r.length = n ∧ r.sum = t ∧ r.Pairwise (fun a b => b ≤ a) ∧ ∀ x ∈ r, 0 ≤ x ∧ x ≤ top
  | 0, 0, top, r => by
    unfold rws
    rw [List.mem_singleton]
    constructor
    · rintro rfl
      exact ⟨rfl, rfl, List.Pairwise.nil, fun x hx => nomatch hx⟩
    · rintro ⟨h, _⟩
      exact List.eq_nil_of_length_eq_zero h
  | 0, t + 1, top, r => by
    unfold rws
    constructor
    · intro h
      cases h
    · rintro ⟨h, s, _⟩
      rw [List.eq_nil_of_length_eq_zero h] at s
      have s : (0 : Int) = ((t + 1 : Nat) : Int) := s
      omega
  | n + 1, t, top, r => by
    unfold rws
    rw [List.mem_flatMap]
    constructor
    · rintro ⟨e, he, h⟩
      obtain ⟨q, hq, rfl⟩ := List.mem_map.mp h
      have he := List.mem_range.mp he
      obtain ⟨h1, h2, h3, h4⟩ := mem_rws.mp hq
      refine ⟨by rw [List.length_cons, h1], by rw [List.sum_cons, h2]; omega, List.pairwise_cons.mpr ⟨fun x hx => (h4 x hx).2, h3⟩, fun x hx => ?_⟩
      rcases List.mem_cons.mp hx with rfl | hx
      · omega
      · have := h4 x hx
        omega
    · rintro ⟨h1, h2, h3, h4⟩
      cases r with
      | nil => cases h1
      | cons x q =>
        obtain ⟨g1, g2⟩ := List.pairwise_cons.mp h3
        have hx := h4 x List.mem_cons_self
        have nn : 0 ≤ q.sum := by
          have : ∀ q : List Int, (∀ y ∈ q, 0 ≤ y) → 0 ≤ q.sum := fun q => by
            induction q with
            | nil => exact fun _ => Int.le_refl _
            | cons y q ih =>
              intro h
              rw [List.sum_cons]
              have := h y List.mem_cons_self
              have := ih fun z hz => h z (List.mem_cons_of_mem _ hz)
              omega
          exact this q fun y hy => (h4 y (List.mem_cons_of_mem _ hy)).1
        rw [List.sum_cons] at h2
        refine ⟨x.toNat, List.mem_range.mpr (by omega), List.mem_map.mpr ⟨q, mem_rws.mpr ⟨by simpa using h1, by omega, g2, fun y hy => ?_⟩, by rw [show ((x.toNat : Nat) : Int) = x by omega]⟩⟩
        have := h4 y (List.mem_cons_of_mem _ hy)
        have := g1 y hy
        omega
abbrev Rw (n t : Nat) : List (List Int) := rws n t t
def undB (y r : List Int) : Bool := ((heads y 0).zip (heads r 0)).all fun q => decide (q.1 ≤ q.2)
def gapB (r y : List Int) : Int := ((r.zip y).map fun p => absI (p.1 - p.2)).sum
def mv1 (x : List Int) (s g : Nat) : List Int := (x.set s (x.getD s 0 - 1)).set g ((x.set s (x.getD s 0 - 1)).getD g 0 + 1)
def mvs (x : List Int) : List (List Int) := (List.range x.length).flatMap fun s => ((List.range x.length).filter fun g => decide (x.getD g 0 + 2 ≤ x.getD s 0)).map fun g => srt (mv1 x s g)
def chkF (n t : Nat) : Bool := decide ((Rw n t).length < 63) && (decide (((Rw n t).map Zd.hT).Nodup) && (Rw n t).all fun r => decide (gapB r r = 0) && (Rw n t).all fun x => !undB x r || (((mvs x).all fun y => decide (y ∈ Rw n t) && (undB y r && decide (gapB r y ≤ gapB r x + 2))) &&
  (decide (gapB r x % 2 = 0 ∧ 0 ≤ gapB r x ∧ gapB r x ≤ 22) && (decide (x = r) || ((Rw n t).any fun z => undB z r && (decide (gapB r z + 2 = gapB r x) && decide (x ∈ mvs z)))))))
theorem chkF_all : ((List.range 4).all fun n => (List.range 9).all fun t => chkF (n + 1) t) = true := by decide +kernel
end Ph

namespace Ph
open PySem PySem.Spec PyProof.Rows L2 LamX Pd
section
variable {n t : Nat}
theorem chk_at (h1 : 1 ≤ n) (h4 : n ≤ 4) (ht : t ≤ 8) : chkF n t = true := by
  have h := List.all_eq_true.mp (List.all_eq_true.mp chkF_all (n - 1) (List.mem_range.mpr (by omega))) t (List.mem_range.mpr (by omega))
  rw [show n - 1 + 1 = n by omega] at h
  exact h
structure Look (n t : Nat) : Prop where
  few : (Rw n t).length < 63
  hs : ((Rw n t).map Zd.hT).Nodup
  self : ∀ r ∈ Rw n t, gapB r r = 0
  mv : ∀ r ∈ Rw n t, ∀ x ∈ Rw n t, undB x r = true → ∀ y ∈ mvs x, y ∈ Rw n t ∧ undB y r = true ∧ gapB r y ≤ gapB r x + 2
  ev : ∀ r ∈ Rw n t, ∀ x ∈ Rw n t, undB x r = true → gapB r x % 2 = 0 ∧ 0 ≤ gapB r x ∧ gapB r x ≤ 22
  fr : ∀ r ∈ Rw n t, ∀ x ∈ Rw n t, undB x r = true → x = r ∨ ∃ z ∈ Rw n t, undB z r = true ∧ gapB r z + 2 = gapB r x ∧ x ∈ mvs z
theorem look (h1 : 1 ≤ n) (h4 : n ≤ 4) (ht : t ≤ 8) : Look n t := by
  have h := chk_at h1 h4 ht
  unfold chkF at h
  rw [Bool.and_eq_true, Bool.and_eq_true] at h
  obtain ⟨f1, f2, f3⟩ := h
  have key : ∀ r ∈ Rw n t, gapB r r = 0 ∧ ∀ x ∈ Rw n t, undB x r = true → (∀ y ∈ mvs x, y ∈ Rw n t ∧ undB y r = true ∧ gapB r y ≤ gapB r x + 2) ∧ (gapB r x % 2 = 0 ∧ 0 ≤ gapB r x ∧ gapB r x ≤ 22) ∧ (x = r ∨ ∃ z ∈ Rw n t, undB z r = true ∧ gapB r z + 2 = gapB r x ∧ x ∈ mvs z) := fun r hr => by
    have g := List.all_eq_true.mp f3 r hr
    rw [Bool.and_eq_true] at g
    refine ⟨of_decide_eq_true g.1, fun x hx hu => ?_⟩
    have g2 := List.all_eq_true.mp g.2 x hx
    rw [hu, Bool.not_true, Bool.false_or, Bool.and_eq_true, Bool.and_eq_true] at g2
    obtain ⟨a1, a2, a3⟩ := g2
    refine ⟨fun y hy => ?_, of_decide_eq_true a2, ?_⟩
    · have := List.all_eq_true.mp a1 y hy
      rw [Bool.and_eq_true, Bool.and_eq_true] at this
      exact ⟨of_decide_eq_true this.1, this.2.1, of_decide_eq_true this.2.2⟩
    · rw [Bool.or_eq_true] at a3
      rcases a3 with a3 | a3
      · exact .inl (of_decide_eq_true a3)
      · obtain ⟨z, hz, a4⟩ := List.any_eq_true.mp a3
        rw [Bool.and_eq_true, Bool.and_eq_true] at a4
        exact .inr ⟨z, hz, a4.1, of_decide_eq_true a4.2.1, of_decide_eq_true a4.2.2⟩
  exact ⟨of_decide_eq_true f1, of_decide_eq_true f2, fun r hr => (key r hr).1, fun r hr x hx hu => ((key r hr).2 x hx hu).1, fun r hr x hx hu => ((key r hr).2 x hx hu).2.1, fun r hr x hx hu => ((key r hr).2 x hx hu).2.2⟩
def NowR (n t : Nat) (r : List Int) (k : Nat) (x : List Int) : Prop := x ∈ Rw n t ∧ undB x r = true ∧ gapB r x = 2 * k
def KnR (n t : Nat) (r : List Int) (k : Nat) (x : List Int) : Prop := x ∈ Rw n t ∧ undB x r = true ∧ gapB r x ≤ 2 * k
theorem Look.step (L : Look n t) {r : List Int} (hr : r ∈ Rw n t) (k : Nat) (y : List Int) : ((∃ x, NowR n t r k x ∧ y ∈ mvs x) ∧ ¬ KnR n t r k y) ↔ NowR n t r (k + 1) y := by
  constructor
  · rintro ⟨⟨x, ⟨hx, ux, gx⟩, hy⟩, nk⟩
    obtain ⟨y1, y2, y3⟩ := L.mv r hr x hx ux y hy
    have e := L.ev r hr y y1 y2
    refine ⟨y1, y2, ?_⟩
    have : ¬ gapB r y ≤ 2 * k := fun z => nk ⟨y1, y2, z⟩
    omega
  · rintro ⟨y1, y2, y3⟩
    refine ⟨?_, fun ⟨_, _, z⟩ => by omega⟩
    rcases L.fr r hr y y1 y2 with rfl | ⟨z, z1, z2, z3, z4⟩
    · rw [L.self y y1] at y3
      omega
    · exact ⟨z, ⟨z1, z2, by omega⟩, z4⟩
theorem Look.known (L : Look n t) {r : List Int} (hr : r ∈ Rw n t) (k : Nat) (y : List Int) : KnR n t r (k + 1) y ↔ KnR n t r k y ∨ NowR n t r (k + 1) y := by
  constructor
  · rintro ⟨y1, y2, y3⟩
    have e := L.ev r hr y y1 y2
    by_cases c : gapB r y ≤ 2 * k
    · exact .inl ⟨y1, y2, c⟩
    · exact .inr ⟨y1, y2, by omega⟩
  · rintro (⟨y1, y2, y3⟩ | ⟨y1, y2, y3⟩)
    · exact ⟨y1, y2, by omega⟩
    · exact ⟨y1, y2, by omega⟩
theorem Look.zero (L : Look n t) {r : List Int} (hr : r ∈ Rw n t) (ur : undB r r = true) (y : List Int) : (NowR n t r 0 y ↔ y = r) ∧ (KnR n t r 0 y ↔ y = r) := by
  have key : y ∈ Rw n t → undB y r = true → gapB r y ≤ 0 → y = r := fun y1 y2 y3 => by
    rcases L.fr r hr y y1 y2 with rfl | ⟨z, z1, z2, z3, z4⟩
    · rfl
    · have := (L.ev r hr z z1 z2).2.1
      omega
  have e := L.self r hr
  refine ⟨⟨fun ⟨y1, y2, y3⟩ => key y1 y2 (by omega), fun h => ?_⟩, ⟨fun ⟨y1, y2, y3⟩ => key y1 y2 (by omega), fun h => ?_⟩⟩
  · rw [h]
    exact ⟨hr, ur, by omega⟩
  · rw [h]
    exact ⟨hr, ur, by omega⟩
end
theorem le_sum : ∀ {a : List Int}, (∀ x ∈ a, 0 ≤ x) → ∀ x ∈ a, x ≤ a.sum
  | [], _, x, hx => nomatch hx
  | y :: a, h, x, hx => by
    have n0 : 0 ≤ a.sum := by
      have : ∀ q : List Int, (∀ y ∈ q, 0 ≤ y) → 0 ≤ q.sum := fun q => by
        induction q with
        | nil => exact fun _ => Int.le_refl _
        | cons y q ih =>
          intro h
          rw [List.sum_cons]
          have := h y List.mem_cons_self
          have := ih fun z hz => h z (List.mem_cons_of_mem _ hz)
          omega
      exact this a fun z hz => h z (List.mem_cons_of_mem _ hz)
    rw [List.sum_cons]
    rcases List.mem_cons.mp hx with rfl | hx
    · omega
    · have := le_sum (fun z hz => h z (List.mem_cons_of_mem _ hz)) x hx
      have := h y List.mem_cons_self
      omega
theorem dn_rw {a : List Int} {t : Nat} (h : ∀ x ∈ a, 0 ≤ x) (s : a.sum = t) : dn a ∈ Rw a.length t :=
  mem_rws.mpr ⟨dn_len a, by rw [sum_perm (dn_perm a), s], dn_sorted a, fun x hx => by
    have hx := (dn_perm a).mem_iff.mp hx
    exact ⟨h x hx, by rw [← s]; exact le_sum h x hx⟩⟩
theorem below_und {a b : List Int} (hl : b.length = a.length) (hs : b.sum = a.sum) : belowI b a = undB (dn b) (dn a) := by
  unfold belowI cmpI
  rw [decide_eq_true hl, decide_eq_true hs]
  rfl
theorem und_self (a : List Int) : undB (dn a) (dn a) = true := less_refl a
theorem mem_mvs {x y : List Int} : y ∈ mvs x ↔ ∃ s g, s < x.length ∧ g < x.length ∧ x.getD g 0 + 2 ≤ x.getD s 0 ∧ y = dn (mv1 x s g) := by
  unfold mvs
  rw [List.mem_flatMap]
  constructor
  · rintro ⟨s, hs, h⟩
    obtain ⟨g, hg, rfl⟩ := List.mem_map.mp h
    obtain ⟨g1, g2⟩ := List.mem_filter.mp hg
    exact ⟨s, g, List.mem_range.mp hs, List.mem_range.mp g1, of_decide_eq_true g2, (dn_srt _).symm⟩
  · rintro ⟨s, g, hs, hg, h, rfl⟩
    exact ⟨s, List.mem_range.mpr hs, List.mem_map.mpr ⟨g, List.mem_filter.mpr ⟨List.mem_range.mpr hg, decide_eq_true h⟩, (dn_srt _).symm⟩⟩
end Ph

namespace Ph
open PySem PySem.Spec PyProof.Rows L2 LamX Pd
def N_are_arranged_alike : List Str := ["one", "other", "pairs", "first", "second"]
def w_are_arranged_alike : WS := (sSeq (sSet 2 (wLst (wListZ (wZa (wCons (wVar 0) (wCons (wVar 1) wNil)))))) (sRet (wNot (x1 fAny (wLst (wComp2 (wItems (wVar 2)) (gNm 3) (W.ret true) (wItems (wVar 2)) (gNm 4) (W.ret true) (wAnd (wBin dGt (xBin fIdx (wVar 3) (W.ret (.int 0))) (xBin fIdx (wVar 4) (W.ret (.int 0)))) (wBin dLt (xBin fIdx (wVar 3) (W.ret (.int 1))) (xBin fIdx (wVar 4) (W.ret (.int 1))))) [3, 4] [4]))))))
def N_is_arranged_alike : List Str := ["one", "other"]
def w_is_arranged_alike : WS := (sSeq (sDrop (wCall F_require_rows (wCons (wVar 0) (wCons (wVar 1) wNil)))) (sRet (wAnd (xBin fEq (w1 dLen (wVar 0)) (w1 dLen (wVar 1))) (wCall F_are_arranged_alike (wCons (wVar 0) (wCons (wVar 1) wNil))))))
def N_arranged : List Str := ["row", "like", "places", "found", "index"]
def w_arranged : WS := (sSeq (sDrop (wCall F_require_rows (wCons (wVar 0) (wCons (wVar 1) wNil)))) (sSeq (sIf (wTest (xBin fNe (w1 dLen (wVar 0)) (w1 dLen (wVar 1)))) (sRaise "InvalidOperation") sNil) (sSeq (sSet 2 (wLst (wSortKey [.neg 1, .self] (w1 dLen (wVar 1))))) (sSeq (sSet 3 (wDictZip (wZa (wCons (wVar 2) (wCons (wCall F_falling (wCons (wVar 0) wNil)) wNil))))) (sRet (w1 dTuple (wLst (wComp (wRng1 (w1 dLen (wVar 1))) (gNm 4) (W.ret true) (wDGet (wVar 3) (wVar 4)) [4]))))))))
def N_is_step : List Str := ["value", "length", "index"]
def w_is_step : WS := (sSeq (sIf (tOrP (tNotP (wTest (w1 (dIsi "tuple") (wVar 0)))) (wTest (xBin fNe (w1 dLen (wVar 0)) (W.ret (.int 3))))) (sRet (W.ret (.bl false))) sNil) (sSeq (sIf (tOrP (tNotP (wTest (x1 fAll (wLst (wComp (wItems (wSl (wVar 0) (W.ret none) (wPart (W.ret (.int 2))))) (gNm 2) (W.ret true) (wCall F_is_from (wCons (wVar 2) (wCons (W.ret (.int 0)) (wCons (wBin dSub (wVar 1) (W.ret (.int 1))) wNil)))) [2]))))) (wTest (xBin fEq (xBin fIdx (wVar 0) (W.ret (.int 0))) (xBin fIdx (wVar 0) (W.ret (.int 1)))))) (sRet (W.ret (.bl false))) sNil) (sRet (wCall F_is_from (wCons (xBin fIdx (wVar 0) (W.ret (.int 2))) (wCons (W.ret (.int 1)) (wCons (W.ret (.int 999999999999999999999999999999)) wNil)))))))
def N_are_steps : List Str := ["value", "length", "step"]
def w_are_steps : WS := (sRet (wAnd (w1 (dIsi "tuple") (wVar 0)) (x1 fAll (wLst (wComp (wItems (wVar 0)) (gNm 2) (W.ret true) (wCall F_is_step (wCons (wVar 2) (wCons (wVar 1) wNil))) [2])))))
def N_behind : List Str := ["row", "steps", "entries", "one", "other", "many"]
def w_behind : WS := (sSeq (sSetOwn 2 (w1F dItems (wVar 0))) (sSeq (sFor (wItems (wVar 1)) (gTupP (gsCons (gNm 3) (gsCons (gNm 4) (gsCons (gNm 5) gsNil))) 3) (sSeq (sIf (wTest (wBin dLt (wIxOwn 2 (wVar 3)) (xBin fAdd (wIxOwn 2 (wVar 4)) (xBin fMul (W.ret (.int 2)) (wVar 5))))) (sRet (W.ret .non)) sNil) (sSeq (sAugIx 2 (wVar 3) iSub (wVar 5)) (sAugIx 2 (wVar 4) iAdd (wVar 5))))) (sRet (w1 dTuple (wOwn 2)))))
def N_after : List Str := ["row", "steps", "found"]
def w_after : WS := (sSeq (sDrop (wCall F_require_row (wCons (wVar 0) wNil))) (sSeq (sSet 2 (wIf (wTest (wCall F_are_steps (wCons (wVar 1) (wCons (w1 dLen (wVar 0)) wNil)))) (wCall F_behind (wCons (wVar 0) (wCons (wVar 1) wNil))) (W.ret .non))) (sSeq (sIf (wTest (wBin dIs (wVar 2) (W.ret .non))) (sRaise "InvalidOperation") sNil) (sRet (wVar 2)))))
def N_units : List Str := ["steps", "step"]
def w_units : WS := (sSeq (sIf (tNotP (wTest (wCall F_are_steps (wCons (wVar 0) (wCons (W.ret (.int 64)) wNil))))) (sRaise "InvalidOperation") sNil) (sRet (x1 fSum (wLst (wComp (wItems (wVar 0)) (gNm 1) (W.ret true) (xBin fIdx (wVar 1) (W.ret (.int 2))) [1])))))
def N_is_road : List Str := ["row", "lower", "value"]
def w_is_road : WS := (sSeq (sDrop (wCall F_require_rows (wCons (wVar 0) (wCons (wVar 1) wNil)))) (sRet (wAnd (wCall F_are_steps (wCons (wVar 2) (wCons (w1 dLen (wVar 0)) wNil))) (xBin fEq (wCall F_behind (wCons (wVar 0) (wCons (wVar 2) wNil))) (wVar 1)))))
end Ph

namespace Ph
open PySem PySem.Spec PyProof.Rows L2 LamX Pd
theorem cmp_all {α : Type} {u : Nat} {e : W D} {Q : List D → PEnv → Prop} (E : Option Sl → PEnv) (enc h : α → D) (hE : ∀ s x, (wipeE (E s) [u]).set u (some (.d x)) = E (some (.d x))) (hW : ∀ s, wipeE (E s) [u] = E none) :
    ∀ (as : List α) (s0 : Option Sl) (acc : List D), acc.length + as.length ≤ 1000000 → (∀ a ∈ as, ∀ (K : D → PEnv → Prop) ex, K (h a) (E (some (.d (enc a)))) → e (E (some (.d (enc a)))) K ex) → Q (acc ++ as.map h) (E none) → cmpW (gNm u) (W.ret true) e [u] Q (as.map enc) (E s0) acc
  | [], s0, acc, _, _, hQ => by
    show Q acc (wipeE (E s0) [u])
    rw [hW]
    simpa using hQ
  | a :: as, s0, acc, hl, he, hQ => by
    show br true (e ((wipeE (E s0) [u]).set u (some (.d (enc a)))) _ _) _
    rw [hE]
    refine br_tt rfl (he a List.mem_cons_self _ _ ⟨by simp at hl; omega, cmp_all E enc h hE hW as _ _ (by simp at hl ⊢; omega) (fun b hb => he b (List.mem_cons_of_mem _ hb)) ?_⟩)
    rw [List.append_assoc]
    exact hQ
theorem comp2_all {α β : Type} {v u : Nat} {it : W (List D)} {e : W D} {Q : List D → PEnv → Prop} (E : Option Sl → Option Sl → PEnv) (e1 : α → D) (e2 : β → D) (h : α → β → D) (bs : List β)
    (hE1 : ∀ s z x, (wipeE (E s z) [v, u]).set v (some (.d x)) = E (some (.d x)) none) (hE2 : ∀ s z y, (wipeE (E s z) [u]).set u (some (.d y)) = E s (some (.d y))) (hW : ∀ s z, wipeE (E s z) [u] = E s none)
    (hit : ∀ s z (K : List D → PEnv → Prop) ex, K (bs.map e2) (E s z) → it (E s z) K ex)
    (he : ∀ a, ∀ b ∈ bs, ∀ (K : D → PEnv → Prop) ex, K (h a b) (E (some (.d (e1 a))) (some (.d (e2 b)))) → e (E (some (.d (e1 a))) (some (.d (e2 b)))) K ex) :
    ∀ (as : List α) (s0 z0 : Option Sl) (acc : List D), acc.length + as.length * bs.length ≤ 1000000 → (∀ s z, Q (acc ++ as.flatMap fun a => bs.map (h a)) (E s z)) → comp2W (gNm v) (W.ret true) it (gNm u) (W.ret true) e [v, u] [u] Q (as.map e1) (E s0 z0) acc
  | [], s0, z0, acc, _, hQ => by
    have := hQ s0 z0
    rw [List.flatMap_nil, List.append_nil] at this
    exact this
  | a :: as, s0, z0, acc, hl, hQ => by
    have el : (as.length + 1) * bs.length = as.length * bs.length + bs.length := by rw [Nat.add_mul, Nat.one_mul]
    rw [List.length_cons, el] at hl
    show br true (it ((wipeE (E s0 z0) [v, u]).set v (some (.d (e1 a)))) _ _) _
    rw [hE1]
    refine br_tt rfl (hit _ _ _ _ ?_)
    refine cmp_all (fun z => E (some (.d (e1 a))) z) e2 (h a) (fun z y => hE2 _ z y) (fun z => hW _ z) bs none acc (by omega) (fun b hb => he a b hb) ?_
    refine comp2_all E e1 e2 h bs hE1 hE2 hW hit he as _ _ _ (by rw [List.length_append, List.length_map]; omega) fun s z => ?_
    have := hQ s z
    rw [List.flatMap_cons] at this
    rw [List.append_assoc]
    exact this
theorem pure_are_arranged_alike (ds : List D) (Q : D → Prop) (Ex : Xc → Prop) (h : F_are_arranged_alike ds Q Ex) : w_are_arranged_alike (dEnds Q Ex) (startE N_are_arranged_alike ds) := by
  obtain ⟨a, b, rfl, la, lb, q⟩ := h
  refine ⟨[a.map D.int, b.map D.int], rfl, by simp, Nat.le_of_ble_eq_true rfl, ?_, ?_⟩
  · show min (a.map D.int).length (b.map D.int).length ≤ 1000000
    rw [List.length_map, List.length_map]
    omega
  show comp2W _ _ _ _ _ _ _ _ _ (zipD (a.map D.int) (b.map D.int)) [_, _, some (.d (.lst (zipD (a.map D.int) (b.map D.int)))), _, _] _
  rw [zip_ints]
  have lz : (a.zip b).length ≤ 900 := by rw [List.length_zip]; omega
  refine comp2_all (v := 3) (u := 4) (it := wItems (wVar 2)) (fun s z => [some (.d (Ti a)), some (.d (Ti b)), some (.d (.lst ((a.zip b).map fun q : Int × Int => D.tup [.int q.1, .int q.2]))), s, z]) (fun q : Int × Int => .tup [.int q.1, .int q.2]) (fun q : Int × Int => .tup [.int q.1, .int q.2]) (fun p q => .bl (decide (q.1 < p.1) && decide (p.2 < q.2))) (a.zip b) (fun _ _ _ => rfl) (fun _ _ _ => rfl) (fun _ _ => rfl) (fun s z K ex k => k) (fun p q _ K ex k => ?_) _ none none [] ?_ fun s z => ?_
  · refine ⟨_, rfl, _, rfl, ?_⟩
    refine br_of (fun h => ?_) (fun h => ?_)
    · refine ⟨_, rfl, _, rfl, ?_⟩
      rw [show decide (q.1 < p.1) = true from h, Bool.true_and] at k
      exact k
    · rw [show decide (q.1 < p.1) = false from h, Bool.false_and] at k
      exact k
  · have : (a.zip b).length * (a.zip b).length ≤ 900 * 900 := Nat.mul_le_mul lz lz
    simp only [List.length_nil]
    omega
  · refine ⟨(a.zip b).flatMap fun p => (a.zip b).map fun q => decide (q.1 < p.1) && decide (p.2 < q.2), ?_, ?_⟩
    · rw [List.nil_append, List.map_flatMap]
      congr 1
      funext p
      rw [List.map_map]
      rfl
    · exact q
theorem len_are_arranged_alike (ds : List D) (Q : D → Prop) (Ex : Xc → Prop) (h : F_are_arranged_alike ds Q Ex) : ds.length = 2 := by
  obtain ⟨x, y, rfl, _⟩ := h
  rfl
theorem pure_is_arranged_alike (ds : List D) (Q : D → Prop) (Ex : Xc → Prop) (h : F_is_arranged_alike ds Q Ex) : w_is_arranged_alike (dEnds Q Ex) (startE N_is_arranged_alike ds) := by
  obtain ⟨x, y, rfl, t⟩ := h
  refine ⟨x, y, rfl, two_in t fun a b ea eb ra rb r => ?_⟩
  subst ea eb
  have la := ra.2.1
  have lb := rb.2.1
  refine ⟨rfl, ?_⟩
  rw [eqb_int, lenC]
  refine br_of (fun h => ?_) (fun h => ?_)
  · rw [h, Bool.true_and] at r
    exact ⟨a, b, rfl, by omega, by omega, r⟩
  · rw [h, Bool.false_and] at r
    exact r
theorem len_is_arranged_alike (ds : List D) (Q : D → Prop) (Ex : Xc → Prop) (h : F_is_arranged_alike ds Q Ex) : ds.length = 2 := by
  obtain ⟨x, y, rfl, _⟩ := h
  rfl
theorem pure_arranged (ds : List D) (Q : D → Prop) (Ex : Xc → Prop) (h : F_arranged ds Q Ex) : w_arranged (dEnds Q Ex) (startE N_arranged ds) := by
  obtain ⟨x, y, rfl, t⟩ := h
  refine ⟨x, y, rfl, two_in t fun a b ea eb ra rb r => ?_⟩
  subst ea eb
  have la := ra.2.1
  have lb := rb.2.1
  obtain ⟨r1, r2⟩ := r
  refine ⟨rfl, br_no ?_⟩
  rw [eqb_int, lenC]
  refine br_if (fun h => ?_) (fun h => r2 h)
  have q := r1 h
  clear r1 r2
  refine ⟨b.length, fun _ => b, by show D.int _ = D.int _; rw [List.length_map], by omega, by simp, by decide, ⟨rfl, Nat.le_refl _, Nat.lt_of_le_of_lt lb (by decide), trivial⟩, ?_⟩
  rw [leK_le2]
  have lp := pl_len b
  have ld := (dn_perm a).length_eq
  have nd := pl_nodup b
  refine ⟨Ti a, a, rfl, rfl, [(pl b).map fun (i : Nat) => D.int (i : Int), (dn a).map D.int], rfl, by simp, Nat.le_of_ble_eq_true rfl, (pl b).map fun i : Nat => (i : Int), (dn a).map D.int, ?_, ?_, ?_, ?_, ?_⟩
  · rw [List.map_map]
    rfl
  · exact List.Pairwise.map _ (fun i j h e => h (Int.ofNat.inj e)) nd
  · rw [List.length_map, List.length_map]
    omega
  · rw [List.length_map]
    omega
  have lm : (b.map D.int).length = b.length := List.length_map _
  refine ⟨by rw [lm]; omega, by omega, ?_⟩
  rw [lm, upTo0, Int.toNat_natCast]
  refine comp_all (fun s => [some (.d (Ti a)), some (.d (Ti b)), some (.d (.lst ((pl b).map fun (i : Nat) => D.int (i : Int)))), some (.d (.dic (dicZ ((pl b).map fun i : Nat => (i : Int)) ((dn a).map D.int)))), s]) (fun i : Nat => D.int (i : Int)) (fun i => D.int (atP ((pl b).zip (dn a)) i)) (List.range b.length) none [] (fun _ _ => rfl) (fun i hi K ex k => ?_) fun s => ?_
  · obtain ⟨k', v, e1, e2, e3, e4, e5⟩ := arr_at h (List.mem_range.mp hi)
    refine ⟨_, (i : Int), .int v, rfl, rfl, ?_, by rw [e4] at k; exact k⟩
    have key : ∀ (p : List Nat) (vs : List Int), lookD (dicZ (p.map fun i : Nat => (i : Int)) (vs.map D.int)) (Sum.inl (i : Int)) = ((p.zip vs).find? fun q => decide (q.1 = i)).map fun q => D.int q.2 := fun p => by
      induction p with
      | nil => exact fun vs => rfl
      | cons c p ih =>
        intro vs
        cases vs with
        | nil => rfl
        | cons v vs =>
          have := ih vs
          unfold lookD dicZ at this ⊢
          simp only [List.map_cons, List.zip_cons_cons, List.find?_cons]
          by_cases hc : c = i
          · subst hc
            simp
          · have h1 : decide ((Sum.inl (c : Int) : Key) = Sum.inl (i : Int)) = false := decide_eq_false fun z => hc (by have := Sum.inl.inj z; omega)
            rw [h1, decide_eq_false hc]
            exact this
    rw [key, e5]
    rfl
  · show Q (.tup _)
    rw [List.nil_append]
    have e : Ti (arr a b) = D.tup ((List.range b.length).map fun i => D.int (atP ((pl b).zip (dn a)) i)) := by
      unfold arr
      show D.tup (List.map _ (List.map _ _)) = _
      rw [List.map_map]
      rfl
    rw [e] at q
    exact q
theorem len_arranged (ds : List D) (Q : D → Prop) (Ex : Xc → Prop) (h : F_arranged ds Q Ex) : ds.length = 2 := by
  obtain ⟨x, y, rfl, _⟩ := h
  rfl
end Ph

namespace Ph
open PySem PySem.Spec PyProof.Rows L2 LamX Pd
theorem comp_d {v : Nat} {e : W D} {Q : List D → PEnv → Prop} (E : Option Sl → PEnv) (h : D → D) (xs : List D) (s0 : Option Sl) (hE : ∀ s x, (wipeE (E s) [v]).set v (some (.d x)) = E (some (.d x)))
    (he : ∀ a ∈ xs, ∀ (K : D → PEnv → Prop) ex, K (h a) (E (some (.d a))) → e (E (some (.d a))) K ex) (hQ : ∀ s, Q (xs.map h) (E s)) : compW (gNm v) (W.ret true) e [v] Q xs (E s0) [] := by
  have := comp_all (v := v) (e := e) (Q := Q) E id h xs s0 [] hE he hQ
  rwa [List.map_id] at this
theorem stepB_no {xs : List D} (h : xs.length ≠ 3) (L : Int) : stepB (.tup xs) L = false := by
  unfold stepB
  split
  · rename_i x y z e
    cases e
    exact absurd rfl h
  · rfl
theorem pure_is_step (ds : List D) (Q : D → Prop) (Ex : Xc → Prop) (h : F_is_step ds Q Ex) : w_is_step (dEnds Q Ex) (startE N_is_step ds) := by
  obtain ⟨x, L, rfl, ⟨kx, ks⟩, q⟩ := h
  have other : (∀ xs, x ≠ .tup xs) → Q (.bl false) := fun hx => by
    have e : stepB x L = false := by
      unfold stepB
      split
      · exact absurd rfl (hx _)
      · rfl
    rw [e] at q
    exact q
  cases x with
  | tup xs =>
    refine br_ff rfl ⟨rfl, ?_⟩
    show br (!eqb (.int (xs.length : Int)) (.int 3)) _ _
    rw [eqb_int]
    refine br_no (br_if (fun h => ?_) (fun h => ?_))
    · obtain ⟨a, b, c, rfl⟩ : ∃ a b c, xs = [a, b, c] := by
        match xs, h with
        | [a, b, c], _ => exact ⟨a, b, c, rfl⟩
        | [], h => simp at h
        | [a], h => simp at h
        | [a, b], h => simp at h
        | a :: b :: c :: d :: r, h => simp only [List.length_cons] at h; omega
      have ka := ks _ rfl a List.mem_cons_self
      have kb := ks _ rfl b (List.mem_cons_of_mem _ List.mem_cons_self)
      have kc := ks _ rfl c (List.mem_cons_of_mem _ (List.mem_cons_of_mem _ List.mem_cons_self))
      refine comp_d (fun s => [some (.d (.tup [a, b, c])), some (.d (.int L)), s]) (fun x => .bl (inR x 0 (L - 1))) [a, b] none (fun _ _ => rfl) (fun x hx K ex k => ?_) fun s => ?_
      · refine ⟨x, 0, L - 1, rfl, ?_, k⟩
        rcases List.mem_cons.mp hx with rfl | hx
        · exact ka
        · rw [List.mem_singleton.mp hx]
          exact kb
      refine ⟨[inR a 0 (L - 1), inR b 0 (L - 1)], rfl, ?_⟩
      have q2 : Q (.bl (inR a 0 (L - 1) && inR b 0 (L - 1) && !(eqb a b) && inR c 1 maxN)) := q
      show br (!(inR a 0 (L - 1) && (inR b 0 (L - 1) && true))) _ _
      rw [Bool.and_true]
      refine br_no (br_of (fun h => ?_) (fun h => ?_))
      · rw [h, Bool.true_and] at q2
        rw [Bool.and_eq_true] at h
        obtain ⟨i, rfl, _⟩ := inR_int h.1
        obtain ⟨j, rfl, _⟩ := inR_int h.2
        refine ⟨_, rfl, _, rfl, rfl, br_of (fun h => ?_) (fun h => ?_)⟩
        · rw [h] at q2
          exact q2
        · rw [h] at q2
          exact ⟨_, rfl, c, 1, maxN, rfl, kc, q2⟩
      · rw [h] at q2
        exact br_tt rfl q2
    · rw [stepB_no (fun z => h (by rw [z]; rfl))] at q
      exact q
  | int i => exact br_tt rfl (br_tt rfl (other fun xs z => nomatch z))
  | bl b => exact br_tt rfl (br_tt rfl (other fun xs z => nomatch z))
  | non => exact br_tt rfl (br_tt rfl (other fun xs z => nomatch z))
  | str y => exact br_tt rfl (br_tt rfl (other fun xs z => nomatch z))
  | lst y => exact br_tt rfl (br_tt rfl (other fun xs z => nomatch z))
  | dic y => exact br_tt rfl (br_tt rfl (other fun xs z => nomatch z))
  | _ => cases kx
theorem len_is_step (ds : List D) (Q : D → Prop) (Ex : Xc → Prop) (h : F_is_step ds Q Ex) : ds.length = 2 := by
  obtain ⟨x, y, rfl, _⟩ := h
  rfl
theorem pure_are_steps (ds : List D) (Q : D → Prop) (Ex : Xc → Prop) (h : F_are_steps ds Q Ex) : w_are_steps (dEnds Q Ex) (startE N_are_steps ds) := by
  obtain ⟨x, L, rfl, ⟨kx, ks⟩, q⟩ := h
  cases x with
  | tup xs =>
    refine br_tt rfl ?_
    refine comp_d (fun s => [some (.d (.tup xs)), some (.d (.int L)), s]) (fun x => .bl (stepB x L)) xs none (fun _ _ => rfl) (fun x hx K ex k => ⟨x, L, rfl, (ks _ rfl).2 x hx, k⟩) fun s => ?_
    refine ⟨xs.map fun x => stepB x L, by rw [List.map_map]; rfl, ?_⟩
    rw [List.all_map]
    exact q
  | int i => exact br_ff rfl q
  | bl b => exact br_ff rfl q
  | non => exact br_ff rfl q
  | str y => exact br_ff rfl q
  | lst y => exact br_ff rfl q
  | dic y => exact br_ff rfl q
  | _ => cases kx
theorem len_are_steps (ds : List D) (Q : D → Prop) (Ex : Xc → Prop) (h : F_are_steps ds Q Ex) : ds.length = 2 := by
  obtain ⟨x, y, rfl, _⟩ := h
  rfl
theorem idx_int {l : List Int} {i x : Int} (h0 : 0 ≤ i) (h : l[i.toNat]? = some x) : dIdx (.lst (l.map D.int)) (.int i) = some (.int x) := idx_items rfl h0 (by rw [List.getElem?_map, h]; rfl)
theorem pure_behind (ds : List D) (Q : D → Prop) (Ex : Xc → Prop) (h : F_behind ds Q Ex) : w_behind (dEnds Q Ex) (startE N_behind ds) := by
  obtain ⟨row, sts, rfl, hl, ok, q⟩ := h
  have hd : ∃ r0, r0 = row := ⟨row, rfl⟩
  obtain ⟨r0, e0⟩ := hd
  show forW _ _ _ (sts.map encS) [some (.d (Ti row)), some (.d (.tup (sts.map encS))), some (.own (row.map D.int)), none, none, none]
  generalize some (Sl.d (D.tup (sts.map encS))) = sl1
  generalize some (Sl.d (Ti row)) = sl0
  clear e0 r0
  refine forW_ind (fun rest env => ∃ (r : List Int) (t : List Stp) (s3 s4 s5 : Option Sl), rest = t.map encS ∧ env = [sl0, sl1, some (.own (r.map D.int)), s3, s4, s5] ∧ r.length = row.length ∧ (∀ q ∈ t, okS row.length q) ∧ Q (optT (bhd r t))) ?_ ?_ _ _ ⟨row, sts, _, _, _, rfl, rfl, rfl, ok, q⟩
  · rintro x rest env ⟨r, t, s3, s4, s5, er, rfl, lr, ok, q⟩ ih
    cases t with
    | nil => cases er
    | cons p t =>
      cases er
      obtain ⟨s0, s1, g0, g1, ne, m1, m2⟩ := ok p List.mem_cons_self
      obtain ⟨x, ex, ex2, _⟩ := at_mem (row := r) s0 (by omega)
      obtain ⟨y, ey, ey2, _⟩ := at_mem (row := r) g0 (by omega)
      have ne2 : p.1.toNat ≠ p.2.1.toNat := fun z => ne (by omega)
      refine ⟨rfl, ?_⟩
      refine ⟨_, idx_int s0 ex, _, idx_int g0 ey, .inl (.inl (by decide)), ?_⟩
      unfold bhd at q
      rw [ex2, ey2] at q
      show br (decide (x < y + 2 * p.2.2)) _ _
      refine br_if (fun h => ?_) (fun h => ?_)
      · rw [if_pos h] at q
        exact q
      · rw [if_neg h] at q
        refine ⟨_, idx_int s0 ex, .int (x - p.2.2), p.1.toNat, rfl, ixn s0 (by rw [List.length_map]; omega), ?_⟩
        have e1 : (r.map D.int).set p.1.toNat (.int (x - p.2.2)) = (r.set p.1.toNat (x - p.2.2)).map D.int := set_ints _ _ _
        have ey3 : (r.set p.1.toNat (x - p.2.2))[p.2.1.toNat]? = some y := by rw [List.getElem?_set_ne ne2]; exact ey
        rw [e1]
        refine ⟨_, idx_int g0 ey3, .int (y + p.2.2), p.2.1.toNat, rfl, ixn g0 (by rw [List.length_map, List.length_set]; omega), ?_⟩
        have e3 : ((r.set p.1.toNat (x - p.2.2)).map D.int).set p.2.1.toNat (.int (y + p.2.2)) = (mvd r p).map D.int := by
          unfold mvd
          rw [ex2, ey3, set_ints]
          rfl
        rw [e3]
        exact ih _ ⟨mvd r p, t, some (.d (.int p.1)), some (.d (.int p.2.1)), some (.d (.int p.2.2)), rfl, rfl, by rw [mvd_len]; exact lr, fun z hz => ok z (List.mem_cons_of_mem _ hz), q⟩
  · rintro env ⟨r, t, s3, s4, s5, er, rfl, lr, ok, q⟩
    cases t with
    | nil => exact q
    | cons p t => cases er
theorem len_behind (ds : List D) (Q : D → Prop) (Ex : Xc → Prop) (h : F_behind ds Q Ex) : ds.length = 2 := by
  obtain ⟨x, y, rfl, _⟩ := h
  rfl
theorem pure_after (ds : List D) (Q : D → Prop) (Ex : Xc → Prop) (h : F_after ds Q Ex) : w_after (dEnds Q Ex) (startE N_after ds) := by
  obtain ⟨x, v, rfl, kx, e, r⟩ := h
  refine ⟨x, rfl, kx, fun hx => ?_, e⟩
  obtain ⟨a, rfl, ra⟩ := isRow_true hx
  obtain ⟨kv, r1, r2⟩ := r a rfl ra
  have lm : (a.map D.int).length = a.length := List.length_map _
  refine ⟨v, _, rfl, kv, ?_⟩
  rw [lm]
  unfold aft at r1 r2
  refine br_of (fun h => ?_) (fun h => ?_)
  · rw [if_pos h] at r1 r2
    obtain ⟨sts, rfl, ok⟩ := stepsB_enc h
    rw [sts_enc] at r1 r2
    refine ⟨a, sts, rfl, by have := ra.2.1; omega, ok, ?_⟩
    cases hb : bhd a sts with
    | some r => exact br_ff rfl (r1 r hb)
    | none => exact br_tt rfl (r2 hb)
  · rw [if_neg (by rw [h]; exact Bool.false_ne_true)] at r2
    exact br_tt rfl (r2 rfl)
theorem len_after (ds : List D) (Q : D → Prop) (Ex : Xc → Prop) (h : F_after ds Q Ex) : ds.length = 2 := by
  obtain ⟨x, y, rfl, _⟩ := h
  rfl
theorem pure_units (ds : List D) (Q : D → Prop) (Ex : Xc → Prop) (h : F_units ds Q Ex) : w_units (dEnds Q Ex) (startE N_units ds) := by
  obtain ⟨v, rfl, kv, q, e⟩ := h
  refine ⟨v, 64, rfl, kv, br_no (br_of (fun h => ?_) (fun h => e h))⟩
  have q := q h
  obtain ⟨sts, rfl, ok⟩ := stepsB_enc h
  rw [sts_enc] at q
  refine comp_all (fun s => [some (.d (.tup (sts.map encS))), s]) encS (fun p => D.int p.2.2) sts none [] (fun _ _ => rfl) (fun p _ K ex k => ⟨_, rfl, k⟩) fun s => ?_
  refine ⟨sts.map fun p : Stp => p.2.2, ?_, q⟩
  show some ([] ++ sts.map fun p => D.int p.2.2) = _
  rw [List.nil_append, List.map_map]
  rfl
theorem len_units (ds : List D) (Q : D → Prop) (Ex : Xc → Prop) (h : F_units ds Q Ex) : ds.length = 1 := by
  obtain ⟨x, rfl, _⟩ := h
  rfl
theorem pure_is_road (ds : List D) (Q : D → Prop) (Ex : Xc → Prop) (h : F_is_road ds Q Ex) : w_is_road (dEnds Q Ex) (startE N_is_road ds) := by
  obtain ⟨x, y, v, rfl, t⟩ := h
  refine ⟨x, y, rfl, two_in t fun a b ea eb ra rb r => ?_⟩
  subst ea eb
  obtain ⟨kv, q⟩ := r
  have lm : (a.map D.int).length = a.length := List.length_map _
  refine ⟨v, _, rfl, kv, ?_⟩
  rw [lm]
  unfold aft at q
  refine br_of (fun h => ?_) (fun h => ?_)
  · rw [if_pos h] at q
    obtain ⟨sts, rfl, ok⟩ := stepsB_enc h
    rw [sts_enc] at q
    refine ⟨a, sts, rfl, by have := ra.2.1; omega, ok, ?_⟩
    cases hb : bhd a sts with
    | some r =>
      rw [hb] at q
      refine ⟨?_, ?_⟩
      · show (plain 60 (Ti r) && plain 60 (Ti b)) = true
        rw [pl_Ti 58, pl_Ti 58]
        rfl
      · show Q (.bl (eqb (Ti r) (Ti b)))
        rw [eqb_Ti]
        have : decide (some r = some b) = decide (r = b) := decide_eq_decide.mpr ⟨fun z => Option.some.inj z, fun z => by rw [z]⟩
        rw [this] at q
        exact q
    | none =>
      rw [hb] at q
      refine ⟨?_, q⟩
      show (true && plain 60 (Ti b)) = true
      rw [pl_Ti 58]
      rfl
  · rw [if_neg (by rw [h]; exact Bool.false_ne_true)] at q
    exact q
theorem len_is_road (ds : List D) (Q : D → Prop) (Ex : Xc → Prop) (h : F_is_road ds Q Ex) : ds.length = 3 := by
  obtain ⟨x, y, z, rfl, _⟩ := h
  rfl
end Ph

namespace Ph
open PySem PySem.Spec PyProof.Rows L2 LamX Pd
end Ph

namespace Zl
open PySem
section
variable {prog : Program} {w : World} {A : Around} {E : Value → Shared → Prop}
end
end Zl
namespace Pd
open PySem PySem.Spec PyProof.Rows L2 LamX
section
variable {X : Cx} {T : List (Addr × Str)} {E : XK} {k : Nat}
end
end Pd

namespace Pd
open PySem PySem.Spec PyProof.Rows L2 LamX NdefX
section
variable {P : Program} {w : World} {K : PySem.W.Frag} {mg : Str → Option Value} {base : Heap} {T : List (Addr × Str)}
theorem def_okC {x : Str} {st : Stmt} {N ps : List Str} {k : Nat} {F : Fn} (d : HasD K mg x st) (gm : mg x = some (.ref (He.ga K x))) (S : FnScope N ps (defScope st))
    (bn : ∀ (f : Addr) (fd : FuncData), FunD K x x (defArgs st) (defBody st) (defScope st) [] [] f fd → Binds K fd ps []) (len : ∀ ds Q Ex, F ds Q Ex → ds.length = ps.length)
    (hd : ∀ (A : Around) (outer : List Env) (s : Shared) (H : Hp) (E : XK), Bd (cxOf (L2.CX P w) P w K mg base N x (defScope st) (He.ga K x) (.ref (He.codeOf K (x, none))) A outer s H E) E k → Takes (cxOf (L2.CX P w) P w K mg base N x (defScope st) (He.ga K x) (.ref (He.codeOf K (x, none))) A outer s H E) (fun cls d _ H => E cls d H) →
      ∃ wb, JSs T (cxOf (L2.CX P w) P w K mg base N x (defScope st) (He.ga K x) (.ref (He.codeOf K (x, none))) A outer s H E) E (defBody st) wb ∧ ∀ ds Q Ex, F ds Q Ex → wb (dEnds Q Ex) (startE N ds)) : DefOk P w K mg base T x (k + 1) ps F := by
  obtain ⟨f, fd, D, at_⟩ := d
  have same : f = He.ga K x := by
    rw [gm] at at_
    cases at_
    rfl
  subst same
  have bnd := bn _ _ D
  have kept := D.kp
  obtain ⟨oc, od, dV, kV, doc, pm, an, cdv, ct, osl, rfl, lk, inn, _, _⟩ := D.ex
  obtain ⟨c, rfl⟩ := He.codeIn_ref inn
  obtain rfl : He.codeOf K (x, none) = c := He.codeOf_eq (p := (x, none)) lk rfl
  refine ⟨_, _, at_, kept, bnd, fn_of lk inn S (fun vs H Q E h => ?_) (fun A outer s H vs Q E room h => ?_), ⟨oc, od, osl, lk⟩⟩
  · obtain ⟨wd, ds, P, Ex, _, r, h, _⟩ := h
    exact r.length.trans (len ds P Ex h)
  · obtain ⟨wd, ds, P1, Ex, g, r, h, xo, kk⟩ := h
    have tk : Takes (cxOf (L2.CX P w) P w K mg base N x (defScope st) (He.ga K x) (.ref (He.codeOf K (x, none))) A outer s H E) (fun cls d _ H => E cls d H) := takes_of rfl rfl rfl rfl
    obtain ⟨wb, hj, hw⟩ := hd A outer s H E ⟨room, passes_call tk fun _ _ _ _ h => h, passes_of rfl, rfl, S.nd⟩ tk
    refine ⟨_, hj, ⟨wd, H, []⟩, wd, startE N ds, dEnds P1 Ex, rel_start g r, hw ds P1 Ex h, xo, ?_, ?_, fun _ z => z.elim, fun _ z => z.elim⟩
    · exact fun env' hn σ' wd' H' le r' => kk .non hn .non wd' H' r'.ord r'.good r'.keep .non
    · exact fun d hd v wd' H' o' g' k' rp => kk d hd v wd' H' o' g' k' rp
end
end Pd

namespace Zd
open PySem PySem.Spec PyProof.Rows L2
section
variable {X : Cx}
def rUpdT : V → List V → Hp → VK → Prop := fun x vs H Q => ∃ (d o : Addr) (kvs more : List (List Key × V)) (nss : List (List Int)), x = .ref d ∧ vs = [.ref o] ∧ d ≠ o ∧ H d = some (.dT kvs) ∧ Rd H o (.dT more) ∧ more.map (·.1) = nss.map Pd.iK ∧ (nss.map hT).Nodup ∧ kvs.length + more.length ≤ sizeLine ∧
  Q .non (upd H d (.dT (putAll kvs more)))
theorem putAll_len : ∀ (more kvs : List (List Key × V)), (putAll kvs more).length ≤ kvs.length + more.length
  | [], kvs => Nat.le_refl _
  | kv :: more, kvs => by
    show (putAll (putK kvs kv.1 kv.2) more).length ≤ _
    have h1 := putAll_len more (putK kvs kv.1 kv.2)
    have h2 := length_putK kvs kv.1 kv.2
    rw [List.length_cons]
    omega
theorem mt_updT (room : X.A.units + 2 < cLine) : MtM X "dict.update" rUpdT := by
  rintro pins s σ H x vs v us Q I rx rv ⟨d, o, kvs, more, nss, rfl, rfl, ne, hd, ho, keys, apart, few, q⟩
  cases rx
  rw [Vals.ref1 rv]
  obtain ⟨_, nd, xs, ra, da⟩ := dt_of I.hok hd
  obtain ⟨_, no, ys, rb, db⟩ := dt_rd I.hok ho
  have hs : (ys.map fun y => (tupleKind (mixKind X.prog X.w)).hash y.1).Nodup := by
    have e : (ys.map fun y => (tupleKind (mixKind X.prog X.w)).hash y.1) = nss.map hT := by
      have ky : ys.map (·.1) = nss.map Pd.iK := by rw [kt_keys rb, keys]
      have := congrArg (List.map (tupleKind (mixKind X.prog X.w)).hash) ky
      rw [List.map_map, List.map_map] at this
      exact this.trans (List.map_congr_left fun ns _ => hash_iK X.prog X.w ns)
    rw [e]
    exact apart
  have tys : ∀ y ∈ ys, s.TypeIs (.ref y.2.1) "tuple" := fun y hy => by
    obtain ⟨_, _, _, _, _, _, _, ks, _⟩ := db
    exact tupleKind_stays.tuple (ks y hy)
  have few2 : xs.length + ys.length ≤ sizeLine := by
    rw [← ra.length, ← rb.length]
    exact few
  refine call_update_dictH (knd := tupleKind (mixKind X.prog X.w)) (show X.A.in1.units < cLine from (by show X.A.units + 1 < cLine; omega)) ne no da db (.inr ⟨tys, hs⟩) few2 fun g made _ same => ?_
  have kt : KT (upd H d (.dT (putAll kvs more))) (putAll kvs more) (storedAllH xs ys) := (kt_all rb ra).keeps fun b zs e => by
    rw [upd_ne (fun z => by rw [z, hd] at e; cases e)]
    exact e
  have lim : (putAll kvs more).length ≤ sizeLine := Nat.le_trans (putAll_len more kvs) few
  have he : ∃ q, g.get? d = some q := let ⟨q, _, _, hq, _⟩ := made; ⟨q, hq⟩
  obtain ⟨ob, es, ep, d1, d2, d3, d4, _, d6⟩ := made
  exact ⟨.non, _, d_write (ob := .dT (putAll kvs more)) I (by rw [hd]; exact True.intro) same he ⟨lim, nd, _, kt, ob, es, ep, d1, d2, d3, d4, d6⟩, rfl, q⟩
end
end Zd
namespace Pd
open PySem PySem.Spec PyProof.Rows L2 LamX
section
variable {X : Cx} {T : List (Addr × Str)} {E : XK} {k : Nat} {x : Str} {e : Expr} {p apos pos : Pos}
def wUpdT (i : Nat) (w : W D) : W D := fun env Q ex => dcuIs env i fun _ => w env (fun y env1 => dcuIs env1 i fun ks => ∃ (ls : List (List Key × D)) (nss : List (List Int)), y = .dit ls ∧ ls.map (·.1) = nss.map iK ∧ (nss.map Zd.hT).Nodup ∧ ks.length + ls.length ≤ 1000000 ∧
  Q .non (env1.set i (some (.dct none (.t (putAllG ks ls)))))) ex
theorem je_updT (i : Nat) {w : W D} (B : Bd X E k) (he : JE T X E e w) (hN : X.N[i]? = some x := by rfl) (hv : Vis X.env.scope x := by first | exact Or.inl rfl | exact Or.inr (Or.inl rfl) | exact Or.inr (Or.inr rfl)) (hd : (x == ("__debug__" : Str)) = false := by decide)
    (hcd : (x == ("__classdict__" : Str)) = false := by decide) (hbase : attributeBase (.Name x p) "update" X.env (eval (.Name x p) X.env) = eval (.Name x p) X.env := by rfl)
    (hfew : ((backTo pos (starEach [e] X.env)).all (fun x => !x.1) && (backToKw pos (keywordEach [] X.env)).all (fun x => x.1.isSome) && decide ([e].length + ([] : List Keyword).length + (if ([] : List Keyword).isEmpty then 0 else 1) < 30)) = true := by rfl)
    (hline : (apos.endLine == pos.line) = true := by rfl) (hs : starEach [e] X.env = (false, eval e X.env) :: starEach [] X.env := by rfl) (hpl : (backTo pos (starEach [] X.env)).any (·.1) = false := by rfl) : JE T X E (.Call (.Attribute (.Name x p) "update" apos) [e] [] pos) (wUpdT i w) :=
  peI (pe_bm F.plainAttrs_dict F.slot_dict_update F.type_dict_update (Zd.mt_updT (by have := B.room.un; omega)) (pe_var hN hv hd hcd) (pa_cons he pa_nil hs) hbase hfew hline hs hpl) fun σ H Q ⟨c, wd, env, P, Ex, rl, h, xo, kk⟩ => by
    obtain ⟨ks0, e0, h⟩ := dcuIs_inv h
    obtain ⟨p0, vs0, z0, zh, _⟩ := dct_t (rl.ext.dct i none (.t ks0) (gt_eq _ _ e0))
    refine ⟨.ref p0, z0, .inr (.inr (.inl ⟨rfl, .inr ⟨_, zh⟩⟩)), c, wd, env, _, Ex, rl, h, xo, fun y env1 h1 u wd1 H1 le1 r1 rp1 => ?_⟩
    obtain ⟨ks, e1, ls, nss, rfl, hk, ha, hz, h2⟩ := dcuIs_inv h1
    obtain ⟨p1, vs, z1, z2, z3, z4, z5, z6⟩ := dct_t (r1.ext.dct i none (.t ks) (gt_eq _ _ e1))
    rw [z0] at z1
    cases z1
    cases rp1 with
    | @dit o ob us _ hb eb rb =>
      have hb := r1.good.sub _ _ hb
      have ne : p0 ≠ o := fun z => by rw [← z] at hb; rw [show H1 p0 = some (.dT vs) from z2] at hb; cases hb
      have l1 : vs.length = ks.length := by have := congrArg List.length z5; rwa [List.length_map, List.length_map] at this
      have l2 : us.length = ls.length := by have := congrArg List.length eb; rwa [List.length_map, List.length_map] at this
      obtain ⟨q1, q2⟩ := putAll_reps eb rb z5 z6
      exact ⟨p0, o, vs, us, nss, rfl, rfl, ne, z2, .inr ⟨_, hb⟩, by rw [eb, hk], ha, by rw [l1, l2]; exact sz6 hz, kk _ _ h2 .non wd1 _ le1 (r1.putDct (us := .t _) (ls := .t _) (lk2 := none) (gt_eq _ _ e1) z0 q1 q2 trivial) .non⟩
end
end Pd

namespace Pd
open PySem PySem.Spec PyProof.Rows L2 LamX
def hid : Option Sl → Option Sl
  | some (.d x) => some (.d x)
  | _ => none
def hids : PEnv → PEnv
  | [] => []
  | s :: r => hid s :: hids r
theorem hids_len : ∀ env : PEnv, (hids env).length = env.length
  | [] => rfl
  | s :: r => by simp [hids, hids_len r]
theorem hid_some {o : Option Sl} {s : Sl} (h : hid o = some s) : ∃ x, s = .d x ∧ o = some (.d x) := by
  unfold hid at h
  split at h
  · cases h; exact ⟨_, rfl, rfl⟩
  · cases h
theorem hids_get : ∀ {env : PEnv} {j : Nat} {s : Sl}, (hids env)[j]? = some (some s) → ∃ x, s = .d x ∧ env[j]? = some (some (.d x))
  | [], j, s, h => by simp [hids] at h
  | o :: r, 0, s, h => by
    simp [hids] at h
    obtain ⟨x, e1, e2⟩ := hid_some h
    exact ⟨x, e1, by simp [e2]⟩
  | o :: r, j + 1, s, h => by
    simp [hids] at h
    simpa using hids_get h
section
variable {K : PySem.W.Frag} {X : Cx} {T : List (Addr × Str)} {E : XK} {k : Nat} {c : Ctx} {wd : Wd} {env : PEnv} {σ : L2.St} {H : Hp}
end
end Pd

namespace Pd
open PySem PySem.Spec PyProof.Rows L2 LamX
section
variable {X : Cx} {T : List (Addr × Str)} {E : XK} {k : Nat} {c : Ctx} {wd wd2 : Wd} {env : PEnv} {σ : L2.St} {H H2 : Hp} {p : Addr} {o : HO}
theorem Good.putN {us : List (List Key × V)} (g : Good T wd H) (g2 : Good T wd2 H2) (le : Le wd wd2) (hp : H p = none) (e : H2 p = some (.dT us)) (nt : noTb o) (hz : Sized o) : Good T (wd.add p o) (upd H2 p o) := by
  have hm := g.mnone hp
  refine ⟨fun a u q => ?_, fun a u q => ?_, fun b hb => ?_, fun q hq => ?_, siz_upd g2.siz hz⟩
  · by_cases ha : a = p
    · subst ha
      have q : upd wd.M a o a = some u := q
      rw [upd_same] at q ⊢
      exact q
    · have q : upd wd.M p o a = some u := q
      rw [upd_ne ha] at q ⊢
      exact g2.sub a u (le.m a u q)
  · by_cases ha : a = p
    · subst ha
      have q : upd wd.M a o a = some u := q
      rw [upd_same] at q
      cases q
      exact ⟨nt, hz⟩
    · have q : upd wd.M p o a = some u := q
      rw [upd_ne ha] at q
      exact g.ntb a u q
  · obtain ⟨h1, _⟩ := g.box b hb
    obtain ⟨_, gg, s, c', h2, h3⟩ := g2.box b (le.b b hb)
    have ne : b ≠ p := fun z => by
      obtain ⟨_, g', s', c'', h4, _⟩ := g.box b hb
      rw [z, hp] at h4
      cases h4
    refine ⟨?_, gg, s, c', by rw [upd_ne ne]; exact h2, h3⟩
    show upd wd.M p o b = none
    rw [upd_ne ne]
    exact h1
  · obtain ⟨ps, z1, z2, z3⟩ := g2.tab q hq
    refine ⟨ps, by rw [upd_ne (fun z => by rw [z, e] at z1; cases z1)]; exact z1, z2, fun pos cv hc => ?_⟩
    obtain ⟨a, y1, y2⟩ := z3 pos cv hc
    exact ⟨a, y1, by rw [upd_ne (fun z => by rw [z, e] at y2; cases y2)]; exact y2⟩
theorem Keep.putN (k2 : Keep wd (upd H p (.dT [])) H2) (hp : H p = none) : Keep wd H (upd H2 p o) := by
  refine ⟨fun a u q n t => ?_, fun a q => ?_⟩
  · have ne : a ≠ p := fun z => by rw [z, hp] at q; cases q
    rw [upd_ne ne]
    exact k2.st a u (by rw [upd_ne ne]; exact q) n t
  · by_cases ha : a = p
    · rw [ha]
      exact Nt.of hp
    · exact (k2.dm a (q.upd ha)).upd ha
theorem Rel.seen (r : Rel X.K T c wd env σ H) (hp : H p = none) : Rel X.K T ⟨wd, upd H p (.dT []), []⟩ wd (hids env) σ (upd H p (.dT [])) := by
  have gd : Good T wd (upd H p (.dT [])) := r.good.new hp trivial
  refine ⟨Ord.refl _ _, gd, Keep.refl _ _, by rw [hids_len]; exact r.len, fun j x z => ?_, fun j ys z => ?_, fun j l ys zs q z => ?_, fun q hq => (nomatch hq), fun j q C fs z => ?_, fun j l q q' C C' fs gs z => ?_, fun j cs z => ?_, fun j cs z => ?_, fun j l cs ds z => ?_, fun j lk kvs z => ?_, fun j l lk lk' ks ls q z => ?_⟩
  · obtain ⟨x', y, z'⟩ := hids_get z
    cases y
    obtain ⟨v, a, b⟩ := r.dat j x z'
    exact ⟨v, a, b⟩
  all_goals (obtain ⟨x', y, _⟩ := hids_get z; cases y)
variable {y : Str} {e : Expr} {pos p1 p2 p3 pos' : Pos}
end
end Pd

namespace Pd
open PySem PySem.Spec PyProof.Rows L2 LamX
section
variable {X : Cx} {T : List (Addr × Str)} {E : XK} {k : Nat} {c : Ctx} {wd wd2 : Wd} {env : PEnv} {σ : L2.St} {H H2 : Hp} {p : Addr} {o : HO}
theorem Good.putK {us : List (Key × V)} (g : Good T wd H) (g2 : Good T wd2 H2) (le : Le wd wd2) (hp : H p = none) (e : H2 p = some (.dK us)) (nt : noTb o) (hz : Sized o) : Good T (wd.add p o) (upd H2 p o) := by
  have hm := g.mnone hp
  refine ⟨fun a u q => ?_, fun a u q => ?_, fun b hb => ?_, fun q hq => ?_, siz_upd g2.siz hz⟩
  · by_cases ha : a = p
    · subst ha
      have q : upd wd.M a o a = some u := q
      rw [upd_same] at q ⊢
      exact q
    · have q : upd wd.M p o a = some u := q
      rw [upd_ne ha] at q ⊢
      exact g2.sub a u (le.m a u q)
  · by_cases ha : a = p
    · subst ha
      have q : upd wd.M a o a = some u := q
      rw [upd_same] at q
      cases q
      exact ⟨nt, hz⟩
    · have q : upd wd.M p o a = some u := q
      rw [upd_ne ha] at q
      exact g.ntb a u q
  · obtain ⟨h1, _⟩ := g.box b hb
    obtain ⟨_, gg, s, c', h2, h3⟩ := g2.box b (le.b b hb)
    have ne : b ≠ p := fun z => by
      obtain ⟨_, g', s', c'', h4, _⟩ := g.box b hb
      rw [z, hp] at h4
      cases h4
    refine ⟨?_, gg, s, c', by rw [upd_ne ne]; exact h2, h3⟩
    show upd wd.M p o b = none
    rw [upd_ne ne]
    exact h1
  · obtain ⟨ps, z1, z2, z3⟩ := g2.tab q hq
    refine ⟨ps, by rw [upd_ne (fun z => by rw [z, e] at z1; cases z1)]; exact z1, z2, fun pos cv hc => ?_⟩
    obtain ⟨a, y1, y2⟩ := z3 pos cv hc
    exact ⟨a, y1, by rw [upd_ne (fun z => by rw [z, e] at y2; cases y2)]; exact y2⟩
theorem Keep.putK (k2 : Keep wd (upd H p (.dK [])) H2) (hp : H p = none) : Keep wd H (upd H2 p o) := by
  refine ⟨fun a u q n t => ?_, fun a q => ?_⟩
  · have ne : a ≠ p := fun z => by rw [z, hp] at q; cases q
    rw [upd_ne ne]
    exact k2.st a u (by rw [upd_ne ne]; exact q) n t
  · by_cases ha : a = p
    · rw [ha]
      exact Nt.of hp
    · exact (k2.dm a (q.upd ha)).upd ha
end
end Pd

namespace Pd
open PySem PySem.Spec PyProof.Rows L2 LamX
section
variable {X : Cx} {T : List (Addr × Str)} {E : XK} {k : Nat} {y : Str} {kx vx : Expr} {p1 pos pos' : Pos}
end
end Pd

namespace Pd
open PySem PySem.Spec PyProof.Rows L2 LamX
section
variable {X : Cx} {T : List (Addr × Str)} {E : XK} {k : Nat}
section
variable {o e : Expr} {apos pos : Pos}
end
section
variable {x : Str} {p1 pos : Pos}
end
end
end Pd

namespace Pd
open PySem PySem.Spec PyProof.Rows L2 LamX
def wIxC (j : Nat) (a b : W D) : W D := fun env Q ex => a env (fun x env1 => celIs env1 j x fun _ _ => b env1 (fun y env2 => celIs env2 j x fun _ xs => ∃ z, dIdx (.lst xs) y = some z ∧ Q z env2) ex) ex
section
variable {X : Cx} {T : List (Addr × Str)} {E : XK} {k : Nat}
theorem je_ixC (j : Nat) {o y : Expr} {a b : W D} {pos : Pos} (ha : JE T X E o a) (hb : JE T X E y b) (hs : PlainIx y) : JE T X E (.Subscript o y pos) (wIxC j a b) :=
  peI (pe_ix ix_list ha hb hs) fun σ H Q ⟨c, wd, env, P, Ex, rl, h, xo, kk⟩ => by
    refine ⟨c, wd, env, _, Ex, rl, h, xo, fun x env1 h1 v wd1 H1 le1 r1 rp1 => ?_⟩
    obtain ⟨p, xs0, rfl, m0, h1⟩ := celIs_inv h1
    cases rp1
    refine ⟨c, wd1, env1, _, Ex, r1, h1, xo, fun y1 env2 h2 u wd2 H2 le2 r2 rp2 => ?_⟩
    obtain ⟨p', xs, e', m, z, e2, hq⟩ := celIs_inv h2
    clear h2
    cases e'
    obtain ⟨vs, z2, z6⟩ := r2.celAt m
    cases rp2 <;> first | cases e2 | skip
    obtain ⟨w, e3, r3⟩ := atI_reps z6 e2
    exact ⟨_, vs, _, w, rfl, rfl, .inl (.inl z2), e3, kk z env2 hq w wd2 H2 (le1.trans le2) r2 r3⟩
end
end Pd

namespace Pd
open PySem PySem.Spec PyProof.Rows L2 LamX
section
variable {X : Cx} {T : List (Addr × Str)} {E : XK} {k : Nat} {x : Str} {p1 pos : Pos}
end
end Pd

namespace Pd
open PySem PySem.Spec PyProof.Rows L2 LamX
section
variable {X : Cx} {T : List (Addr × Str)} {E : XK} {k : Nat}
theorem ps_unp {e : Expr} {ts es : List Expr} {ta : TA} {t : TGs} {pt pt2 pos : Pos} {kt k2} (hc : X.calm = true) (ha : PA X (e :: es) ta) (hg : PGs X ts t) (few : es.length < 1000)
    (hn : (assignEach ts X.env).length = es.length + 1 := by rfl) (none_ : (assignEach ts X.env).findIdx? (·.1) = none := by rfl)
    (hs : swapsWithSole [.Tuple ts kt pt] (.Tuple (e :: es) k2 pt2) pos.line X.env = pure false := by rfl) (hw : swappedStores [.Tuple ts kt pt] (.Tuple (e :: es) k2 pt2) X.env = pure none := by rfl)
    (h1 : (assignEach [.Tuple ts kt pt] X.env).map (·.2) = [assign (.Tuple ts kt pt) X.env] := by rfl) : PS X (.Assign [.Tuple ts kt pt] (.Tuple (e :: es) k2 pt2) pos) (fun D σ H => ta σ H fun vs H1 => vs.length = es.length + 1 ∧ t vs σ H1 fun σ' H' => D.nx σ' H') := by
  constructor
  intro pins s σ H D I h
  refine wpAny_Assign_stores (Tuple_ (thn (ha.run _ pins s σ H _ I h) ?_)) hs hw
  rintro us s1 ⟨vs, H1, I1, r1, len, q⟩
  have lu : us.length = es.length + 1 := r1.length.symm.trans len
  refine wpAny_newObj_type ?_ (by show us.toArray.size ≤ sizeLine; rw [List.size_toArray, lu, sizeLine_eq]; omega)
  rw [h1]
  have I2 : Inv X pins σ H1 { s1 with heap := s1.heap.push { cls := .type "tuple", data := .seq us.toArray } } := I1.kept (t' := s1.toks) fun b o z => Heap.get?_push_of_some _ z
  have tup : IsTup (s1.heap.push { cls := .type "tuple", data := .seq us.toArray }) s1.heap.objs.size us.toArray := IsTup.new s1.heap _
  have fin := assign_Tuple_tuple (s := { s1 with heap := s1.heap.push { cls := .type "tuple", data := .seq us.toArray } }) (prog := X.prog) (w := X.w) (A := X.A) (E := X.xe) (x1 := kt) (pos := pt) (Q := fun _ s' => ∃ σ' H', Inv X pins σ' H' s' ∧ D.nx σ' H') (I.ok.hd hc) tup (by rw [hn, List.size_toArray, lu]) none_ fun h' hx => by
    have I3 := I2.kept (h' := h') (t' := s1.toks) fun b o z => hx b o (Nat.ne_of_lt (Heap.lt_size z)) z
    exact hg.run pins _ σ H1 vs us _ I3 r1 q
  exact thn fin fun _ s2 z => z
end
end Pd

namespace Pd
open PySem PySem.Spec PyProof.Rows L2 LamX Zn
def sAugC (j : Nat) (a iw : W D) (g : D → D → Option D) (ew : W D) : WS := fun pe env => a env (fun x env1 => celIs env1 j x fun _ _ => iw env1 (fun n env2 => celIs env2 j x fun _ xs => match n with
  | .int n => ∃ z, dIdx (.lst xs) (.int n) = some z ∧ ew env2 (fun y env3 => celIs env3 j x fun p xs2 => ∃ r i, g z y = some r ∧ ixN xs2.length n = some i ∧ pe.nx (env3.set j (some (.cels (celSet (celsOf (gt env3 j)) p (xs2.set i r)))))) pe.ex
  | _ => False) pe.ex) pe.ex
section
variable {T : List (Addr × Str)}
theorem Good.chgDT {wd : Wd} {H : Hp} (g : Good T wd H) {p : Addr} {us vs : List (List Key × V)} (h : H p = some (.dT us)) (hm : wd.M p = none) (hz : SizedH (.dT vs)) : Good T wd (upd H p (.dT vs)) := by
  refine ⟨fun a o q => by rw [upd_ne (fun z => by rw [z, hm] at q; cases q)]; exact g.sub a o q, g.ntb, fun b hb => ?_, fun q hq => ?_, siz_upd g.siz hz⟩
  · obtain ⟨z1, e, s, c', z2, z3⟩ := g.box b hb
    exact ⟨z1, e, s, c', by rw [upd_ne (fun z => by rw [z, h] at z2; cases z2)]; exact z2, z3⟩
  · obtain ⟨ps, z1, z2, z3⟩ := g.tab q hq
    refine ⟨ps, by rw [upd_ne (fun z => by rw [z, h] at z1; cases z1)]; exact z1, z2, fun pos cv hc => ?_⟩
    obtain ⟨a, y1, y2⟩ := z3 pos cv hc
    exact ⟨a, y1, by rw [upd_ne (fun z => by rw [z, h] at y2; cases y2)]; exact y2⟩
end
section
variable {X : Cx} {T : List (Addr × Str)} {E : XK} {k : Nat}
theorem js_augC (j : Nat) {o y e : Expr} {a iw ew : W D} {op : Operator} {g : D → D → Option D} {p2 pos : Pos} (ha : JE T X E o a) (hi : JE T X E y iw) (ho : OpDI X op g) (he : JE T X E e ew)
    (hst : ∀ ov iv new, augStore y ov iv new = (do holding [new, ov, iv] (setItem ov iv new); release [new, ov, iv] []; pure .next) := by intros; rfl) : JS T X E (.AugAssign (.Subscript o y p2) op e pos) (sAugC j a iw g ew) := by
  obtain ⟨ti, o1, o2⟩ := ho
  refine psI (ps_augS ha hi get_list he o1 set_list hst) fun D σ H ⟨c, wd, env, pe, rl, h, o⟩ => ?_
  refine ⟨c, wd, env, _, _, rl, h, o.ex, fun x env1 h1 u wd1 H1 le1 r1 rp1 => ?_⟩
  obtain ⟨p, xs0, rfl, m0, h1⟩ := celIs_inv h1
  cases rp1
  refine ⟨c, wd1, env1, _, _, r1, h1, o.ex, fun n env2 h2 w wd2 H2 le2 r2 rp2 => ?_⟩
  obtain ⟨p', xs, e', m, h3⟩ := celIs_inv h2
  clear h2
  have h2 := h3
  clear h3
  cases e'
  obtain ⟨vs, z2, z6⟩ := r2.celAt m
  split at h2
  · rename_i i0
    cases rp2
    obtain ⟨z, e2, h2⟩ := h2
    obtain ⟨v, e3, r3⟩ := atI_reps z6 e2
    refine ⟨_, vs, _, v, rfl, rfl, .inl (.inl z2), e3, c, wd2, env2, _, _, r2, h2, o.ex, fun y env3 h4 u wd3 H3 le3 r4 rp4 => ?_⟩
    obtain ⟨p'', xs2, e'', m3, r, i, e5, e6, h5⟩ := celIs_inv h4
    cases e''
    refine o2 z y r e5 T wd3 H3 v u _ r4.good (r3.mono le3) rp4 fun w3 wd4 H4 g4 rp5 => ?_
    have r5 := r4.grow g4
    obtain ⟨us, y2, y6⟩ := r5.celAt m3
    refine ⟨_, us, i0, i, rfl, rfl, y2, by rw [y6.length]; exact e6, o.nx _ h5 _ wd4 _ (le1.trans (le2.trans (le3.trans (g4.le r4.good)))) (r5.mutCel m3 (y6.set i rp5) ?_)⟩
    rw [List.length_set]
    exact r5.good.siz _ _ y2
  · exact h2.elim
def sParDT (i j : Nat) (a kw ew : W D) : WS := fun pe env => a env (fun x env1 => kw (hids env1) (fun k e1 => ew e1 (fun v _ => ∃ ns : List Int, k = .tup (ns.map D.int) ∧ pe.nx ((env1.set i (some (.d x))).set j (some (.dct none (.t [(iK ns, v)]))))) fun _ => False) fun _ => False) pe.ex
theorem js_unpDT (i j : Nat) {x y : Str} {a kx vx : Expr} {w kw ew : W D} {px py pt pos p1 : Pos} {kt k2 pt2} (B : Bd X E k) (ha : JE T X E a w) (hk : JE T X E kx kw) (hv : JE T X E vx ew)
    (hi : X.N[i]? = some x := by rfl) (hj : X.N[j]? = some y := by rfl) (hij : i ≠ j := by decide) (hx : Loc X.env.scope x := by first | exact Or.inl rfl | exact Or.inr rfl) (hy : Loc X.env.scope y := by first | exact Or.inl rfl | exact Or.inr rfl)
    (hf : X.fn x = true ∨ X.env.scope.names.lookup x = some .local := by first | exact .inl rfl | exact .inr rfl) (hf2 : X.fn y = true ∨ X.env.scope.names.lookup y = some .local := by first | exact .inl rfl | exact .inr rfl)
    (hn : (assignEach [.Name x px, .Name y py] X.env).length = 2 := by rfl) (none_ : (assignEach [.Name x px, .Name y py] X.env).findIdx? (·.1) = none := by rfl)
    (h3 : (assignEach [.Tuple [.Name x px, .Name y py] kt pt] X.env).map (·.2) = [assign (.Tuple [.Name x px, .Name y py] kt pt) X.env] := by rfl)
    (s1 : (assignEach [.Name x px, .Name y py] X.env).map (·.2) = assign (.Name x px) X.env :: (assignEach [.Name y py] X.env).map (·.2) := by rfl) (s2 : (assignEach [.Name y py] X.env).map (·.2) = assign (.Name y py) X.env :: (assignEach [] X.env).map (·.2) := by rfl)
    (h1 : starEach [a, .Dict [some kx] [vx] p1] X.env = (false, eval a X.env) :: starEach [.Dict [some kx] [vx] p1] X.env := by rfl) (h2 : starEach [.Dict [some kx] [vx] p1] X.env = (false, eval (.Dict [some kx] [vx] p1) X.env) :: starEach [] X.env := by rfl)
    (hw : swappedStores [.Tuple [.Name x px, .Name y py] kt pt] (.Tuple [a, .Dict [some kx] [vx] p1] k2 pt2) X.env = pure none := by rfl)
    (hs : swapsWithSole [.Tuple [.Name x px, .Name y py] kt pt] (.Tuple [a, .Dict [some kx] [vx] p1] k2 pt2) pos.line X.env = pure false := by rfl) :
    JS T X E (.Assign [.Tuple [.Name x px, .Name y py] kt pt] (.Tuple [a, .Dict [some kx] [vx] p1] k2 pt2) pos) (sParDT i j w kw ew) :=
  psI (ps_unp B.calm (pa_cons ha (pa_cons (Zd.pe_dispT (by have := B.room.un; omega) (pps_cons hk hv pps_nil) rfl rfl (by simp) (Nat.le_of_ble_eq_true rfl)) pa_nil h2) h1) (pgs_cons (pg_name B.nd hi hx hf) (pgs_cons (pg_name B.nd hj hy hf2) pgs_nil s2) s1) (by show 1 < 1000; decide) hn none_ hs hw h3) fun D σ H ⟨c, wd, env, pe, r, h, o⟩ => by
    refine ⟨c, wd, env, _, _, r, h, o.ex, fun x env1 h1 v wd1 H1 le1 r1 rp1 => fun p hp => ?_⟩
    refine ⟨_, wd1, hids env1, _, _, r1.seen hp, h1, (fun x hx => hx.elim), fun k e1 h2 u wd2 H2 le2 r2 rp2 => ⟨_, wd2, e1, _, _, r2, h2, (fun x hx => hx.elim), fun vd e2 h3 vv wd3 H3 le3 r3 rp3 => ?_⟩⟩
    obtain ⟨ns, rfl, h4⟩ := h3
    have hp3 : H3 p = some (.dT []) := r3.keep.st p _ upd_same (fun hb => by
      obtain ⟨_, g', s', c'', h4, _⟩ := r1.good.box p hb
      rw [hp] at h4
      cases h4) noTb_dT
    have m3 : wd3.M p = none := r3.ord.mnone (r1.good.mnone hp) upd_same noTb_dT r3.good hp3 (fun _ z => nomatch z)
    cases rp2 with
    | tup hb rb =>
      rename_i b us
      rw [rb.ints] at hb
      have hb := r3.good.sub _ _ (le3.m _ _ hb)
      refine ⟨hp3, [(iK ns, vv)], [b], rfl, .cons (by rw [iK_V]; exact hb) .nil, Nat.le_of_ble_eq_true rfl, rfl, v, [.ref p], rfl, .ref p, [], rfl, rfl, ?_⟩
      have ok : Ord wd1 wd3 H1 := (Ord.refl wd1 H1).trans r3.ord (Keep.add hp)
      have kp : Keep wd1 H1 (upd H3 p (.dT [(iK ns, vv)])) := ((Keep.add hp).trans (Ord.refl wd1 H1) r3.keep).chg hp
      have hn : Nt c.H p := r1.keep.dm p (Nt.of hp)
      refine o.nx _ h4 _ wd3 _ (le1.trans (le2.trans le3)) (((r1.go ok (r3.good.chgDT hp3 m3 trivial) kp).set (Rep.mono (le2.trans le3) rp1)).setDct (us := .t [(iK ns, vv)]) (ls := .t [(iK ns, vd)]) upd_same m3 hn (fun l lk ks e z => ?_) rfl (.cons rp3 .nil))
      rcases get_set e with ⟨rfl, e, _⟩ | ⟨ne, e⟩
      · cases e
      · rw [List.getElem?_set_ne ne] at z
        obtain ⟨q, ws, z1, z2, _⟩ := r1.ext.dct l lk ks e
        rw [z1] at z
        cases z
        rw [hp] at z2
        cases z2
end
def maskT : Nat → List (List Key × D) → PEnv → PEnv
  | _, _, [] => []
  | 0, ks, _ :: r => some (.d (.dit ks)) :: hids r
  | n + 1, ks, s :: r => hid s :: maskT n ks r
theorem maskT_len : ∀ (i : Nat) (ks : List (List Key × D)) (env : PEnv), (maskT i ks env).length = env.length
  | i, _, [] => by cases i <;> rfl
  | 0, ks, s :: r => by simp [maskT, hids_len]
  | n + 1, ks, s :: r => by simp [maskT, maskT_len n ks r]
theorem maskT_get : ∀ {i : Nat} {ks : List (List Key × D)} {env : PEnv} {j : Nat} {s : Sl}, (maskT i ks env)[j]? = some (some s) → (j = i ∧ s = .d (.dit ks)) ∨ ∃ x, s = .d x ∧ env[j]? = some (some (.d x))
  | i, ks, [], j, s, h => by cases i <;> simp [maskT] at h
  | 0, ks, o :: r, 0, s, h => by simp [maskT] at h; exact .inl ⟨rfl, h.symm⟩
  | 0, ks, o :: r, j + 1, s, h => by
    simp [maskT] at h
    exact .inr (by simpa using hids_get h)
  | n + 1, ks, o :: r, 0, s, h => by
    simp [maskT] at h
    obtain ⟨x, e1, e2⟩ := hid_some h
    exact .inr ⟨x, e1, by simp [e2]⟩
  | n + 1, ks, o :: r, j + 1, s, h => by
    simp [maskT] at h
    rcases maskT_get h with ⟨a, b⟩ | ⟨x, a, b⟩
    · exact .inl ⟨by omega, b⟩
    · exact .inr ⟨x, a, by simpa using b⟩
section
variable {K : PySem.W.Frag} {T : List (Addr × Str)} {c : Ctx} {wd : Wd} {env : PEnv} {σ : L2.St} {H : Hp}
theorem Rel.addT (r : Rel K T c wd env σ H) {p : Addr} {vs : List V} (h : H p = some (.tup vs)) (hm : wd.M p = none) : Rel K T c (wd.add p (.tup vs)) env σ H := by
  have le : Le wd (wd.add p (.tup vs)) := Le.add hm
  have nl : ∀ {a : Addr} {us : List V}, H a = some (.lst us) → a ≠ p := fun {a us} e z => by
    rw [z, h] at e
    cases e
  have uq : ∀ {a : Addr} {o : HO}, (wd.add p (.tup vs)).M a = some o → (a = p ∧ o = .tup vs) ∨ wd.M a = some o := fun {a o} z => by
    by_cases ha : a = p
    · rw [ha] at z ⊢
      have z' : upd wd.M p (.tup vs) p = some o := z
      rw [upd_same] at z'
      exact .inl ⟨rfl, (Option.some.inj z').symm⟩
    · have z' : upd wd.M p (.tup vs) a = some o := z
      rw [upd_ne ha] at z'
      exact .inr z'
  refine ⟨⟨r.ord.le.trans le, fun a o z => (uq z).elim (fun ⟨_, e⟩ => .inr (.inr ⟨vs, e⟩)) (r.ord.fm a o), r.ord.fb⟩, ⟨fun a o z => (uq z).elim (fun ⟨e1, e2⟩ => by rw [e1, e2]; exact h) (r.good.sub a o), fun a o z => (uq z).elim (fun ⟨_, e⟩ => by rw [e]; exact ⟨noTb_tup, r.good.siz _ _ h⟩) (r.good.ntb a o), fun b hb => ?_, r.good.tab, r.good.siz⟩, r.keep, r.len, fun i d z => ?_, fun i ys z => ?_, r.sep, fun q hq => ?_, r.ext.addT hm h⟩
  · obtain ⟨z1, z2⟩ := r.good.box b hb
    refine ⟨?_, z2⟩
    obtain ⟨_, _, _, e, _⟩ := z2
    exact upd_none z1 (nl e)
  · obtain ⟨v, z1, z2⟩ := r.dat i d z
    exact ⟨v, z1, z2.mono le⟩
  · obtain ⟨q, us, z1, z2, z3, z4, z5, z6⟩ := r.own i ys z
    exact ⟨q, us, z1, z2, upd_none z3 (nl z2), z4, z5, z6.mono le⟩
  · obtain ⟨z1, z2, z3, z4⟩ := r.pin q hq
    exact ⟨z1, upd_none z2 (nl z1), z3, z4⟩
theorem Rel.addTs (p : Addr) {wd2 : Wd} {H2 : Hp} (sub : ∀ a us, wd2.M a = some (.tup us) → H a = some (.tup us)) : ∀ {vs : List V} {ds : List D}, Reps K wd2 vs ds → (∀ d ∈ ds, ∃ ns : List Int, d = .tup (ns.map D.int)) → ∀ {wd : Wd}, Rel K T c wd env σ H →
    ∃ wd3, Le wd wd3 ∧ wd3.B = wd.B ∧ (∀ a o, wd3.M a = some o → (∀ us, o ≠ .tup us) → wd.M a = some o) ∧ Rel K T c wd3 env σ H ∧ Reps K wd3 vs ds
  | _, _, .nil, _, wd, r => ⟨wd, Le.refl _, rfl, fun _ _ h _ => h, r, .nil⟩
  | _, _, .cons a t, h, wd, r => by
    obtain ⟨ns, rfl⟩ := h _ List.mem_cons_self
    cases a with
    | @tup b us _ hb rb =>
      have hH := sub _ _ hb
      rw [rb.ints] at hH
      have step : ∃ wd3, Le wd wd3 ∧ wd3.B = wd.B ∧ (∀ a o, wd3.M a = some o → (∀ us, o ≠ .tup us) → wd.M a = some o) ∧ Rel K T c wd3 env σ H ∧ wd3.M b = some (.tup (ns.map V.int)) := by
        cases hm : wd.M b with
        | some o =>
          have := r.good.sub b o hm
          rw [hH] at this
          exact ⟨wd, Le.refl _, rfl, fun _ _ h _ => h, r, by rw [hm]; exact this.symm⟩
        | none =>
          refine ⟨_, Le.add hm, rfl, fun a o z nt => ?_, r.addT hH hm, upd_same⟩
          by_cases ha : a = b
          · rw [ha] at z
            have z' : upd wd.M b (.tup (ns.map V.int)) b = some o := z
            rw [upd_same] at z'
            exact absurd (Option.some.inj z').symm (nt _)
          · have z' : upd wd.M b (.tup (ns.map V.int)) a = some o := z
            rw [upd_ne ha] at z'
            exact z'
      obtain ⟨wd1, l1, b1, k1, r1, m1⟩ := step
      obtain ⟨wd3, l3, b3, k3, r3, q3⟩ := Rel.addTs p (H2 := H2) sub t (fun d hd => h d (List.mem_cons_of_mem _ hd)) r1
      refine ⟨wd3, l1.trans l3, b3.trans b1, fun a o z nt => k1 a o (k3 a o z nt) nt, r3, .cons (.tup (l3.m _ _ m1) ?_) q3⟩
      exact ints_reps _
end
section
variable {X : Cx} {T : List (Addr × Str)} {E : XK} {k : Nat}
def sFrzO (l : Nat) (w : WS) : WS := fun pe env => ownIs env l fun xs => w pe (env.set l (some (.d (.lst xs))))
theorem js_frzO (l : Nat) {st : Stmt} {w : WS} (h : JS T X E st w) : JS T X E st (sFrzO l w) := psI h fun D σ H ⟨c, wd, env, pe, r, h, o⟩ => by
  obtain ⟨xs, e, h⟩ := ownIs_inv h
  obtain ⟨p, vs, _, _, le, r1, _⟩ := r.freeze (gt_eq _ _ e)
  exact ⟨c, _, _, pe, r1, h, o.mono le⟩
def sSetCompK (i j : Nat) (w : W (List D)) : WS := fun pe env => dcuIs env j fun ks => w (maskT j ks env) (fun ds _ => (∀ d ∈ ds, ∃ ns : List Int, d = .tup (ns.map D.int)) ∧ pe.nx (env.set i (some (.d (.lst ds))))) (fun _ => False)
theorem js_setCompK (i j : Nat) {y : Str} {elt iter tg : Expr} {ifs : List Expr} {scope : Scope} (own : List (Str × Nat)) {pos spos py : Pos} {w : W (List D)} {g : WG} {wt : W Bool} {we : W D} (B : Bd X E k) (hi : JI T X E tg iter w) (ok : BlkOk X.N X.env.scope scope own)
    (hg : ∀ (s : Shared) (H : Hp) (C : Addr) (cl : List (Str × Addr)) (fp : List Addr), JG T (X.blk s H scope (compEnvC scope cl C X.env) fp) (own.map (·.2)) tg g)
    (ht : ∀ (s : Shared) (H : Hp) (C : Addr) (cl : List (Str × Addr)) (fp : List Addr), Bd (X.blk s H scope (compEnvC scope cl C X.env) fp) E0 k → JTs T (X.blk s H scope (compEnvC scope cl C X.env) fp) E0 ifs wt)
    (he : ∀ (s : Shared) (H : Hp) (C : Addr) (cl : List (Str × Addr)) (fp : List Addr), Bd (X.blk s H scope (compEnvC scope cl C X.env) fp) E0 k → JE T (X.blk s H scope (compEnvC scope cl C X.env) fp) E0 elt we)
    (hsw : swapsWith (.ListComp elt [⟨tg, iter, ifs, 0⟩] scope pos) (some (.Name y py)) spos.line X.env = pure true) (hy : X.N[i]? = some y := by rfl) (hyl : X.env.scope.names.lookup y = some .local := by rfl)
    (hs : ∀ x, foldedSetIterable iter X.env x = pure x := by intro _; rfl) : JS T X E (.Assign [.Name y py] (.ListComp elt [⟨tg, iter, ifs, 0⟩] scope pos) spos) (sSetCompK i j (wComp w g wt we (own.map (·.2)))) := by
  have Bb : ∀ (s : Shared) (H : Hp) (C : Addr) (cl : List (Str × Addr)) (fp : List Addr), Bd (X.blk s H scope (compEnvC scope cl C X.env) fp) E0 k := fun s H C cl fp => ⟨B.room, passL, PassesOwn.never, B.calm, B.nd⟩
  refine psI (ps_lock (ps_setLc (wi := liftI X.K T E w) (g := liftG X.K T (own.map (·.2)) g) (tt := lift X.K T rT E0 wt) (te := lift X.K T (rE X.K) E0 we) B.calm B.nd hy hyl hsw hi ok hg (fun s H C cl fp => ht s H C cl fp (Bb s H C cl fp)) (fun s H C cl fp => he s H C cl fp (Bb s H C cl fp)) hs)) fun D σ H ⟨c, wd, env, pe, r, h, o⟩ => ?_
  obtain ⟨ks, e0, h⟩ := dcuIs_inv h
  have e0 := gt_eq _ _ e0
  obtain ⟨p, vs, h1, h2, h3, h4, h5, h6⟩ := dct_t (r.ext.dct j none (.t ks) e0)
  have h2 : H p = some (.dT vs) := h2
  have hb : p ∉ wd.B := fun z => by
    obtain ⟨_, _, _, _, e, _⟩ := r.good.box p z
    rw [h2] at e
    cases e
  refine ⟨p, .dT vs, h2, trivial, fun od => ?_⟩
  generalize hHl : upd H p (.frz od (.dT vs)) = Hl
  have lp : Hl p = some (.frz od (.dT vs)) := by rw [← hHl]; exact upd_same
  have ln : ∀ {a : Addr}, a ≠ p → Hl a = H a := fun {a} n => by rw [← hHl]; exact upd_ne n
  have le1 : Le wd (wd.add p (.frz od (.dT vs))) := Le.add h3
  have mp : (wd.add p (.frz od (.dT vs))).M p = some (.frz od (.dT vs)) := upd_same
  have mn : ∀ {a : Addr} {o : HO}, (wd.add p (.frz od (.dT vs))).M a = some o → (a = p ∧ o = .frz od (.dT vs)) ∨ (a ≠ p ∧ wd.M a = some o) := fun {a o} z => by
    by_cases ha : a = p
    · rw [ha] at z
      exact .inl ⟨ha, (Option.some.inj (mp.symm.trans z)).symm⟩
    · have z' : upd wd.M p (.frz od (.dT vs)) a = some o := z
      rw [upd_ne ha] at z'
      exact .inr ⟨ha, z'⟩
  have gl : Good T (wd.add p (.frz od (.dT vs))) Hl := by
    refine ⟨fun a o z => ?_, fun a o z => ?_, fun b hbb => ?_, fun q hq => ?_, by rw [← hHl]; exact siz_upd r.good.siz trivial⟩
    · rcases mn z with ⟨rfl, rfl⟩ | ⟨n, z⟩
      · exact lp
      · rw [ln n]
        exact r.good.sub a o z
    · rcases mn z with ⟨rfl, rfl⟩ | ⟨n, z⟩
      · exact ⟨(fun _ h => nomatch h), trivial⟩
      · exact r.good.ntb a o z
    · have ne : b ≠ p := fun z => hb (z ▸ hbb)
      obtain ⟨z1, e, s, c', z2, z3⟩ := r.good.box b hbb
      refine ⟨?_, e, s, c', by rw [ln ne]; exact z2, z3⟩
      show upd wd.M p _ b = none
      rw [upd_ne ne]
      exact z1
    · obtain ⟨ps, z1, z2, z3⟩ := r.good.tab q hq
      refine ⟨ps, by rw [ln fun z => by rw [z, h2] at z1; cases z1]; exact z1, z2, fun pos cv hc => ?_⟩
      obtain ⟨a, y1, y2⟩ := z3 pos cv hc
      exact ⟨a, y1, by rw [ln fun z => by rw [z, h2] at y2; cases y2]; exact y2⟩
  have r1 : Rel X.K T ⟨wd.add p (.frz od (.dT vs)), Hl, []⟩ (wd.add p (.frz od (.dT vs))) (maskT j ks env) σ Hl := by
    refine ⟨Ord.refl _ _, gl, Keep.refl _ _, by rw [maskT_len]; exact r.len, fun l x z => ?_, fun l ys z => ?_, fun l m ys zs q z => ?_, fun q hq => (nomatch hq), fun l q C fs z => ?_, fun l m q q' C C' fs gs z => ?_, fun l cs z => ?_, fun l cs z => ?_, fun l m cs ds z => ?_, fun l lk kvs z => ?_, fun l m lk lk' ks ls q z => ?_⟩
    · rcases maskT_get z with ⟨rfl, y⟩ | ⟨x', y, z'⟩
      · cases y
        exact ⟨_, h1, .dit mp h5 (h6.mono le1)⟩
      · cases y
        obtain ⟨v, a, b⟩ := r.dat l x z'
        exact ⟨v, a, b.mono le1⟩
    all_goals (rcases maskT_get z with ⟨_, y⟩ | ⟨x', y, _⟩ <;> cases y)
  refine lc_lift ⟨_, _, _, _, _, r1, h, (fun x hx => hx.elim), fun ds env2 ⟨at_, q⟩ v wd2 H2 le2 r5 f => ?_⟩
  have hp2 : H2 p = some (.frz od (.dT vs)) := r5.keep.st p _ lp hb (fun _ h => nomatch h)
  have le : Le wd wd2 := le1.trans le2
  refine ⟨hp2, ?_⟩
  generalize hH3 : upd H2 p (.dT vs) = H3
  have qp : H3 p = some (.dT vs) := by rw [← hH3]; exact upd_same
  have qn : ∀ {a : Addr}, a ≠ p → H3 a = H2 a := fun {a} n => by rw [← hH3]; exact upd_ne n
  have kp : Keep wd H H3 := by
    refine ⟨fun a o e nb t => ?_, fun a z => ?_⟩
    · by_cases ha : a = p
      · rw [ha] at e ⊢
        rw [h2] at e
        cases e
        exact qp
      · rw [qn ha]
        exact r5.keep.st a o (by show Hl a = _; rw [ln ha]; exact e) nb t
    · by_cases ha : a = p
      · exact absurd (noTb_dT) (z _ (by rw [ha]; exact qp))
      · have n2 : Nt H2 a := fun o e => z o (by rw [qn ha]; exact e)
        have n1 : Nt Hl a := r5.keep.dm a n2
        exact fun o e => n1 o (by rw [ln ha]; exact e)
  have gd : Good T wd H3 := by
    refine ⟨fun a o z => ?_, r.good.ntb, fun b hbb => ?_, fun q hq => ?_, by rw [← hH3]; exact siz_upd r5.good.siz (r.good.siz _ _ h2)⟩
    · rw [qn fun w => by rw [w, h3] at z; cases z]
      exact r5.good.sub a o (le.m a o z)
    · have ne : b ≠ p := fun z => hb (z ▸ hbb)
      obtain ⟨z1, e, s, c', z2, z3⟩ := r5.good.box b (le.b b hbb)
      exact ⟨(r.good.box b hbb).1, e, s, c', by rw [qn ne]; exact z2, z3⟩
    · obtain ⟨ps, z1, z2, z3⟩ := r5.good.tab q hq
      refine ⟨ps, by rw [qn fun z => by rw [z, hp2] at z1; cases z1]; exact z1, z2, fun pos cv hc => ?_⟩
      obtain ⟨a, y1, y2⟩ := z3 pos cv hc
      exact ⟨a, y1, by rw [qn fun z => by rw [z, hp2] at y2; cases y2]; exact y2⟩
  have r6 : Rel X.K T c wd env σ H3 := by
    refine ⟨r.ord, gd, r.keep.trans r.ord kp, r.len, r.dat, fun l ys e => ?_, r.sep, fun q hq => ?_, r.ext.go r.good (Ord.refl _ _) gd kp⟩
    · obtain ⟨a, us, a1, a2, a3, a4, a5, a6⟩ := r.own l ys e
      exact ⟨a, us, a1, kp.st a _ a2 a4 noTb_lst, a3, a4, a5, a6⟩
    · obtain ⟨y1, y2, y3, y4⟩ := r.pin q hq
      exact ⟨kp.st _ _ y1 y3 noTb_lst, y2, y3, y4⟩
  obtain ⟨q0, us, rfl, f1, f2, f3, f4, f5, f6, f7⟩ := f
  have f4 : Nt Hl q0 := f4
  have np : q0 ≠ p := fun z => by
    rw [z, hp2] at f1
    cases f1
  have nq : Nt H q0 := fun o e => f4 o (by rw [ln np]; exact e)
  have ne : ∀ (a : Addr) (us : List V), H a = some (.lst us) → a ≠ q0 := fun a us e z => nq.no (z ▸ e) noTb_lst
  obtain ⟨wd3, l3, b3, k3, r7, rs⟩ := Rel.addTs p (H2 := H2) (fun a us z => by
    have := r5.good.sub a _ z
    rw [qn fun w => by rw [w, hp2] at this; cases this]
    exact this) f5 at_ r6
  have f' : rF X.K c wd3 env σ H3 (.ref q0) ds := by
    refine ⟨q0, us, rfl, by rw [qn np]; exact f1, ?_, ?_, r.keep.dm q0 nq, rs, ⟨fun l ys e z => ?_, fun l cs e y hy => ?_⟩, fun y hy => ne _ _ (r.pin y hy).1⟩
    · cases z : wd3.M q0 with
      | none => rfl
      | some o =>
        have hq := r7.good.sub q0 o z
        rw [qn np, f1] at hq
        cases hq
        have := le.m q0 _ (k3 q0 _ z fun _ h => nomatch h)
        rw [f2] at this
        cases this
    · rw [b3]
      exact fun z => f3 (le.b q0 z)
    · obtain ⟨a, us, a1, a2, _⟩ := r.own l ys e
      rw [a1] at z
      cases z
      exact ne _ _ a2 rfl
    · obtain ⟨⟨us, a1, _⟩, _⟩ := r.ext.cel l cs e y hy
      exact ne _ _ a1
  obtain ⟨wd4, l4, r8, rp⟩ := r7.frzF f'
  exact o.nx _ q _ wd4 H3 (l3.trans l4) (r8.set rp)
end
end Pd

namespace Zd
open PySem PySem.Spec PyProof.Rows L2 Zn L2.DX
section
variable {X : Cx}
end
section
variable {X : Cx} {o : Expr} {to : TE} {apos cpos : Pos}
end
end Zd
namespace Pd
open PySem PySem.Spec PyProof.Rows L2 Zn L2.DX
section
variable {X : Cx} {T : List (Addr × Str)} {E : XK} {k : Nat} {o e : Expr} {x : Str} {p p1 pos pos' apos cpos : Pos}
end
end Pd

namespace Pd
open PySem PySem.Spec PyProof.Rows L2 LamX
section
variable {X : Cx} {T : List (Addr × Str)} {E : XK} {k : Nat} {o : Expr} {pos : Pos}
def wNoDit (a b : W D) : W D := a.bind fun y => b.bind fun x env Q _ => ∃ (ks : List (List Key × D)) (ns : List Int), y = .tup (ns.map D.int) ∧ x = .dit ks ∧ Q (.bl (!(lookG ks (iK ns)).isSome)) env
theorem jt_noDit {y : Expr} {a b : W D} (B : Bd X E k) (hy : JE T X E y a) (ho : JE T X E o b) (hm : behindInMarks .NotIn o = false := by rfl) : JT T X E (.Compare y [.NotIn] [o] pos) (wTest (wNoDit a b)) :=
  ptI (pt_cmp (pc_dnotin (by have := B.room.un; omega) hy ho) hm) fun σ H Q ⟨c, wd, env, P, Ex, r, h, xo, kk⟩ => ⟨c, wd, env, _, Ex, r, h, xo, fun y env1 h1 v wd1 H1 le1 r1 rp1 => ⟨c, wd1, env1, _, Ex, r1, h1, xo, fun x env2 h2 u wd2 H2 le2 r2 rp2 => by
    obtain ⟨ks, ns, rfl, rfl, h3⟩ := h2
    have rp1 := Rep.mono le2 rp1
    cases rp1 with
    | tup hb rb =>
      rw [rb.ints] at hb
      cases rp2 with
      | dit hd en er =>
        rename_i vs
        have same : (valV vs (iK ns)).isSome = (lookG ks (iK ns)).isSome := by
          cases q : lookG ks (iK ns) with
          | none =>
            rw [val_none en q]
            rfl
          | some d =>
            obtain ⟨w, e1, _⟩ := look_repsG en er d q
            rw [e1]
            rfl
        refine ⟨_, valV vs (iK ns), rfl, .inr ⟨vs, iK ns, _, .inr ⟨_, r2.good.sub _ _ hd⟩, rfl, by rw [iK_V]; exact r2.good.sub _ _ hb, rfl⟩, ?_⟩
        rw [same]
        exact ⟨_, rfl, kk _ env2 h3 _ wd2 H2 (le1.trans le2) r2 rfl⟩⟩⟩
end
end Pd

namespace Pr
open PySem PySem.Spec PyProof.Rows L2 LamX Pd
abbrev F_L_bowl := Ph.F_L_bowl
abbrev F_is_integer := Ph.F_is_integer
abbrev F_is_from := Ph.F_is_from
abbrev F_is_amount := Ph.F_is_amount
abbrev F_is_row := Ph.F_is_row
abbrev F_require_row := Ph.F_require_row
abbrev F_require_rows := Ph.F_require_rows
abbrev F_is_comparable := Ph.F_is_comparable
abbrev F_falling := Ph.F_falling
abbrev F_prefixes := Ph.F_prefixes
abbrev F_bars_of := Ph.F_bars_of
abbrev F_is_below := Ph.F_is_below
abbrev F_are_arranged_alike := Ph.F_are_arranged_alike
abbrev F_is_step := Ph.F_is_step
abbrev F_are_steps := Ph.F_are_steps
abbrev F_units := Ph.F_units
abbrev F_L_ladle := Ph.F_L_ladle
abbrev F_L_dealt := Ph.F_L_dealt
abbrev F_L_pick := Ph.F_L_pick
abbrev F_L_great := Ph.F_L_great
abbrev F_L_drawn_row := Ph.F_L_drawn_row
abbrev F_L_moved := Ph.F_L_moved
abbrev F_L_mixed := Ph.F_L_mixed
abbrev F_L_near_row := Ph.F_L_near_row
abbrev F_arranged := Ph.F_arranged
abbrev F_L_odd_row := Ph.F_L_odd_row
abbrev F_L_down := Ph.F_L_down
abbrev F_L_heads := Ph.F_L_heads
abbrev F_L_under := Ph.F_L_under
abbrev F_behind := Ph.F_behind
abbrev F_is_road := Ph.F_is_road
abbrev F_after := Ph.F_after
abbrev F_is_arranged_alike := Ph.F_is_arranged_alike
def sts (a b : List Int) : List Ph.Stp := (Ph.run (fun i => a.getD i 0) (fun i => b.getD i 0) (Ph.ord a b)).1
def F_fewest_units : Fn := fun ds Q Ex => ∃ x y, ds = [x, y] ∧ Ph.two x y Ex fun a b => (Ph.belowI b a = true → Q (.int (Ph.half a b))) ∧ (Ph.belowI b a = false → Ex Ph.badO)
def F_steps_between : Fn := fun ds Q _ => ∃ a b, ds = [Ti a, Ti b] ∧ a.length = b.length ∧ a ≠ [] ∧ a.length ≤ 64 ∧ Ph.belowI b a = true ∧ Ph.alk (a.zip b) = true ∧ Q (.lst ((sts a b).map Ph.encS))
def F_road : Fn := fun ds Q Ex => ∃ x y, ds = [x, y] ∧ Ph.two x y Ex fun a b => ((Ph.belowI b a = true ∧ Ph.alk (a.zip b) = true) → Q (.tup ((sts a b).map Ph.encS))) ∧ (¬ (Ph.belowI b a = true ∧ Ph.alk (a.zip b) = true) → Ex Ph.badO)
def F_L_is_way : Fn := fun ds Q _ => ∃ (a b : List Int) (f : List Ph.Stp), ds = [Ti a, Ti b, .tup (f.map Ph.encS)] ∧ a.length ≤ 64 ∧ Ph.wlk a f = some b ∧ Q (.bl true)
def F_L_half : Fn := fun ds Q _ => ∃ a b : List Int, ds = [Ti a, Ti b] ∧ a.length = b.length ∧ a.length ≤ 64 ∧ Q (.int (Ph.half a b))
def F_L_road_right : Fn := fun ds Q _ => ∃ a b : List Int, ds = [Ti a, Ti b] ∧ Ph.nrow a ∧ Ph.nrow b ∧ a.length = b.length ∧ a.sum = b.sum ∧ Ph.alk (a.zip b) = true ∧ Q (.bl true)
def F_L_fewest : Fn := fun ds Q _ => ∃ (a b : List Int) (t : Nat), ds = [Ti a, Ti b] ∧ 1 ≤ a.length ∧ a.length ≤ 4 ∧ b.length = a.length ∧ (∀ x ∈ a, 0 ≤ x) ∧ (∀ x ∈ b, 0 ≤ x) ∧ a.sum = t ∧ b.sum = t ∧ t ≤ 8 ∧ Q (if Ph.belowI b a = true then .int (Ph.half a b) else .non)
def F_L_small_right : Fn := fun ds Q _ => ∃ p, ds = [.box p] ∧ Q (.bl true)
def F_L_right : Fn := fun ds Q _ => ∃ p, ds = [.box p] ∧ Q (.bl true)
def F_law : Fn := fun ds Q _ => ∃ ns, ds = [.scr ns] ∧ ns.length ≤ 63 ∧ Q (.bl true)
end Pr

namespace Pr
open PySem PySem.Spec PyProof.Rows L2 LamX Pd
def cls_L_outcome : List Str := ["InvalidSums", "InvalidOperation", "InvalidNumber", "TooMany"]
def hs_L_outcome : List Hd := [⟨"InvalidSums", "sums", none⟩, ⟨"InvalidOperation", "operation", none⟩, ⟨"InvalidNumber", "number", some "value"⟩, ⟨"TooMany", "many", some "limit"⟩]
def N_L_bowl : List Str := ["_law_script", "_law_at", "_law_cell", "_law_great_here", "_law_seed"]
def w_L_bowl : WS := (sSeq (sSet 2 (wIf (wTest (wBin dLt (wVar 1) (w1 dLen (wVar 0)))) (xBin fIdx (wVar 0) (wVar 1)) (xBin fAdd (xBin fMul (W.ret (.int 127)) (wVar 1)) (W.ret (.int 53))))) (sSeq (sSet 3 (xBin fMod (w1 dInt (wN dAbs (wCons (wVar 2) wNil))) (xBin fPow (xBin fPow (W.ret (.int 10)) (W.ret (.int 60))) (W.ret (.int 10))))) (sSeq (sSet 4 (xBin fAdd (xBin fAdd (xBin fAdd (xBin fMul (xBin fMod (w1 dInt (wVar 3)) (W.ret (.int 2147483399))) (W.ret (.int 50077))) (xBin fMul (W.ret (.int 3929)) (wVar 1))) (xBin fMul (W.ret (.int 71)) (w1 dInt (wBin dLt (wVar 2) (W.ret (.int 0)))))) (W.ret (.int 37)))) (sRet (wBox (wSz (wCons (wN dMax2 (wCons (W.ret (.int 0)) (wCons (wBin dSub (wVar 3) (xBin fPow (W.ret (.int 10)) (W.ret (.int 18)))) wNil))) (wCons (xBin fMod (w1 dInt (wVar 4)) (W.ret (.int 2305843009213693921))) (wCons (W.ret (.int 0)) wNil)))))))))
def N_is_integer : List Str := ["value"]
def w_is_integer : WS := (sRet (wAnd (w1 (dIsi "int") (wVar 0)) (wNot (w1 (dIsi "bool") (wVar 0)))))
def N_is_from : List Str := ["value", "first", "last"]
def w_is_from : WS := (sRet (wAnd (wCall F_is_integer (wCons (wVar 0) wNil)) (wChain dLe dLe (wVar 1) (wVar 0) (wVar 2))))
def N_is_amount : List Str := ["value"]
def w_is_amount : WS := (sRet (wCall F_is_from (wCons (wVar 0) (wCons (W.ret (.int 0)) (wCons (W.ret (.int 999999999999999999999999999999)) wNil)))))
def N_is_row : List Str := ["value", "entry"]
def w_is_row : WS := (sSeq (sIf (tOrP (tNotP (wTest (w1 (dIsi "tuple") (wVar 0)))) (tNotP (wTest (wCall F_is_from (wCons (w1 dLen (wVar 0)) (wCons (W.ret (.int 1)) (wCons (W.ret (.int 64)) wNil))))))) (sRet (W.ret (.bl false))) sNil) (sRet (x1 fAll (wLst (wComp (wItems (wVar 0)) (gNm 1) (W.ret true) (wCall F_is_amount (wCons (wVar 1) wNil)) [1])))))
def N_require_row : List Str := ["value"]
def w_require_row : WS := (sIf (tNotP (wTest (wCall F_is_row (wCons (wVar 0) wNil)))) (sRaise "InvalidSums") sNil)
def N_require_rows : List Str := ["one", "other"]
def w_require_rows : WS := (sSeq (sDrop (wCall F_require_row (wCons (wVar 0) wNil))) (sDrop (wCall F_require_row (wCons (wVar 1) wNil))))
def N_is_comparable : List Str := ["one", "other"]
def w_is_comparable : WS := (sRet (wAnd (xBin fEq (w1 dLen (wVar 0)) (w1 dLen (wVar 1))) (xBin fEq (x1 fSum (wVar 0)) (x1 fSum (wVar 1)))))
def N_falling : List Str := ["row"]
def w_falling : WS := (sRet (w1 dTuple (wLst (wSort true (wVar 0)))))
def N_prefixes : List Str := ["row", "entry", "found", "total"]
def w_prefixes : WS := (sSeq (sParM2 2 3 (mF (wSz wNil) (mE (W.ret (.int 0)) mNil))) (sSeq (sFor (wItems (wCall F_falling (wCons (wVar 0) wNil))) (gNm 1) (sSeq (sAug 3 iAdd (wVar 1)) (sDrop (wAppend 2 (wVar 3))))) (sRet (wFrz 2))))
def N_bars_of : List Str := ["one", "other", "pairs", "index", "first", "second"]
def w_bars_of : WS := (sSeq (sSet 2 (wLst (wListZ (wZa (wCons (wCall F_prefixes (wCons (wVar 0) wNil)) (wCons (wCall F_prefixes (wCons (wVar 1) wNil)) wNil)))))) (sRet (wLst (wComp (wEnum (wVar 2)) (gTupP (gsCons (gNm 3) (gsCons (gTupP (gsCons (gNm 4) (gsCons (gNm 5) gsNil)) 2) gsNil)) 2) (wTest (wBin dGt (wVar 4) (wVar 5))) (xBin fAdd (wVar 3) (W.ret (.int 1))) [3, 4, 5]))))
def N_is_below : List Str := ["one", "other"]
def w_is_below : WS := (sRet (wAnd (wCall F_is_comparable (wCons (wVar 0) (wCons (wVar 1) wNil))) (xBin fEq (wCall F_bars_of (wCons (wVar 0) (wCons (wVar 1) wNil))) (wLst (wSz wNil)))))
def N_fewest_units : List Str := ["row", "lower", "one", "other"]
def w_fewest_units : WS := (sSeq (sDrop (wCall F_require_rows (wCons (wVar 0) (wCons (wVar 1) wNil)))) (sSeq (sIf (tNotP (wTest (wCall F_is_below (wCons (wVar 1) (wCons (wVar 0) wNil))))) (sRaise "InvalidOperation") sNil) (sRet (xBin fDiv (x1 fSum (wLst (wComp (wZip (wCall F_falling (wCons (wVar 0) wNil)) (wCall F_falling (wCons (wVar 1) wNil))) (gTupP (gsCons (gNm 2) (gsCons (gNm 3) gsNil)) 2) (W.ret true) (wN dAbs (wCons (wBin dSub (wVar 2) (wVar 3)) wNil)) [2, 3]))) (W.ret (.int 2))))))
def N_steps_between : List Str := ["row", "lower", "index", "found", "waiting", "missing", "many", "*"]
def w_steps_between : WS := (sSeq (sParM2 3 4 (mF (wSz wNil) (mF (wSz wNil) mNil))) (sSeq (sFor (wItems (wLst (wSortKey [.neg 0, .neg 1, .self] (w1 dLen (wVar 0))))) (gNm 2) (sSeq (sSet 5 (wBin dSub (xBin fIdx (wVar 1) (wVar 2)) (xBin fIdx (wVar 0) (wVar 2)))) (sSeq (sIf (wTest (wBin dLt (wVar 5) (W.ret (.int 0)))) (sDrop (wAppend 4 (wCell 7 (wSz (wCons (wVar 2) (wCons (wNeg (wVar 5)) wNil)))))) sNil) (sWhile (wTest (wBin dGt (wVar 5) (W.ret (.int 0)))) (sSeq (sSet 6 (wN dMin2 (wCons (wVar 5) (wCons (wIxC 7 (wIxOwn 4 (wNeg (W.ret (.int 1)))) (W.ret (.int 1))) wNil)))) (sSeq (sDrop (wAppend 3 (wTup (wCons (wIxC 7 (wIxOwn 4 (wNeg (W.ret (.int 1)))) (W.ret (.int 0))) (wCons (wVar 2) (wCons (wVar 6) wNil)))))) (sSeq (sAug 5 iSub (wVar 6)) (sSeq (sAugC 7 (wIxOwn 4 (wNeg (W.ret (.int 1)))) (W.ret (.int 1)) iSub (wVar 6)) (sIf (wTest (xBin fEq (wIxC 7 (wIxOwn 4 (wNeg (W.ret (.int 1)))) (W.ret (.int 1))) (W.ret (.int 0)))) (sDrop (wPop 4)) sNil))))))))) (sRet (wFrz 3))))
def N_are_arranged_alike : List Str := ["one", "other", "pairs", "first", "second"]
def w_are_arranged_alike : WS := (sSeq (sSet 2 (wLst (wListZ (wZa (wCons (wVar 0) (wCons (wVar 1) wNil)))))) (sRet (wNot (x1 fAny (wLst (wComp2 (wItems (wVar 2)) (gNm 3) (W.ret true) (wItems (wVar 2)) (gNm 4) (W.ret true) (wAnd (wBin dGt (xBin fIdx (wVar 3) (W.ret (.int 0))) (xBin fIdx (wVar 4) (W.ret (.int 0)))) (wBin dLt (xBin fIdx (wVar 3) (W.ret (.int 1))) (xBin fIdx (wVar 4) (W.ret (.int 1))))) [3, 4] [4]))))))
def N_road : List Str := ["row", "lower"]
def w_road : WS := (sSeq (sDrop (wCall F_require_rows (wCons (wVar 0) (wCons (wVar 1) wNil)))) (sSeq (sIf (tOrP (tNotP (wTest (wCall F_is_below (wCons (wVar 1) (wCons (wVar 0) wNil))))) (tNotP (wTest (wCall F_are_arranged_alike (wCons (wVar 0) (wCons (wVar 1) wNil)))))) (sRaise "InvalidOperation") sNil) (sRet (w1 dTuple (wCall F_steps_between (wCons (wVar 0) (wCons (wVar 1) wNil)))))))
def N_is_step : List Str := ["value", "length", "index"]
def w_is_step : WS := (sSeq (sIf (tOrP (tNotP (wTest (w1 (dIsi "tuple") (wVar 0)))) (wTest (xBin fNe (w1 dLen (wVar 0)) (W.ret (.int 3))))) (sRet (W.ret (.bl false))) sNil) (sSeq (sIf (tOrP (tNotP (wTest (x1 fAll (wLst (wComp (wItems (wSl (wVar 0) (W.ret none) (wPart (W.ret (.int 2))))) (gNm 2) (W.ret true) (wCall F_is_from (wCons (wVar 2) (wCons (W.ret (.int 0)) (wCons (wBin dSub (wVar 1) (W.ret (.int 1))) wNil)))) [2]))))) (wTest (xBin fEq (xBin fIdx (wVar 0) (W.ret (.int 0))) (xBin fIdx (wVar 0) (W.ret (.int 1)))))) (sRet (W.ret (.bl false))) sNil) (sRet (wCall F_is_from (wCons (xBin fIdx (wVar 0) (W.ret (.int 2))) (wCons (W.ret (.int 1)) (wCons (W.ret (.int 999999999999999999999999999999)) wNil)))))))
def N_are_steps : List Str := ["value", "length", "step"]
def w_are_steps : WS := (sRet (wAnd (w1 (dIsi "tuple") (wVar 0)) (x1 fAll (wLst (wComp (wItems (wVar 0)) (gNm 2) (W.ret true) (wCall F_is_step (wCons (wVar 2) (wCons (wVar 1) wNil))) [2])))))
def N_units : List Str := ["steps", "step"]
def w_units : WS := (sSeq (sIf (tNotP (wTest (wCall F_are_steps (wCons (wVar 0) (wCons (W.ret (.int 64)) wNil))))) (sRaise "InvalidOperation") sNil) (sRet (x1 fSum (wLst (wComp (wItems (wVar 0)) (gNm 1) (W.ret true) (xBin fIdx (wVar 1) (W.ret (.int 2))) [1])))))
def N_L_ladle : List Str := ["_law_bowl_here", "_law_size", "_law_one", "_law_two", "_law_found"]
def w_L_ladle : WS := (sSeq (sIf (wTest (wBin dGt (wBoxGet (wVar 0) (W.ret (.int 0))) (W.ret (.int 0)))) (sSeq (sSet 4 (xBin fMod (w1 dInt (wBoxGet (wVar 0) (W.ret (.int 0)))) (wVar 1))) (sSeq (sBoxSet 0 0 (xBin fDiv (wBoxGet (wVar 0) (W.ret (.int 0))) (wVar 1))) (sRet (wVar 4)))) sNil) (sSeq (sBoxSet 0 2 (xBin fAdd (wBoxGet (wVar 0) (W.ret (.int 2))) (W.ret (.int 1)))) (sSeq (sSet 2 (xBin fMod (w1 dInt (xBin fAdd (wBoxGet (wVar 0) (W.ret (.int 1))) (xBin fMul (W.ret (.int 1000357)) (wBoxGet (wVar 0) (W.ret (.int 2)))))) (W.ret (.int 2305843009213693951)))) (sSeq (sSet 3 (xBin fAdd (xBin fMul (xBin fMod (w1 dInt (xBin fMul (wVar 2) (wVar 2))) (W.ret (.int 2305843009213693907))) (wVar 2)) (xBin fMul (W.ret (.int 6121)) (wBoxGet (wVar 0) (W.ret (.int 2)))))) (sRet (xBin fMod (w1 dInt (xBin fDiv (xBin fMod (w1 dInt (wVar 3)) (W.ret (.int 2305843009213693921))) (W.ret (.int 32768)))) (wVar 1)))))))
def N_L_dealt : List Str := ["_law_bowl_here", "_law_total", "_law_length", "_law_cuts", "_law_turn", "_law_ends", "_law_share", "_law_first", "_law_later"]
def w_L_dealt : WS := (sSeq (sSetOwn 3 (wSz wNil)) (sSeq (sFor (wRng1 (wBin dSub (wVar 2) (W.ret (.int 1)))) (gNm 4) (sSeq (sSet 6 (wCall F_L_ladle (wCons (wVar 0) (wCons (W.ret (.int 1001)) wNil)))) (sDrop (wAppend 3 (wN dMin2 (wCons (wVar 1) (wCons (wN dMax2 (wCons (W.ret (.int 0)) (wCons (wBin dSub (xBin fAdd (xBin fDiv (xBin fMul (wVar 1) (wVar 6)) (W.ret (.int 1000))) (wCall F_L_ladle (wCons (wVar 0) (wCons (W.ret (.int 5)) wNil)))) (W.ret (.int 2))) wNil))) wNil))))))) (sSeq (sSet 5 (xBin fAdd (xBin fAdd (wLst (wSz (wCons (W.ret (.int 0)) wNil))) (wLst (wSort false (wOwn 3)))) (wLst (wSz (wCons (wVar 1) wNil))))) (sRet (w1 dTuple (wLst (wComp (wZip (wVar 5) (wSl (wVar 5) (wPart (W.ret (.int 1))) (W.ret none))) (gTupP (gsCons (gNm 7) (gsCons (gNm 8) gsNil)) 2) (W.ret true) (wBin dSub (wVar 8) (wVar 7)) [7, 8])))))))
def N_L_pick : List Str := ["_law_bowl_here", "_law_items"]
def w_L_pick : WS := (sRet (xBin fIdx (wVar 1) (wCall F_L_ladle (wCons (wVar 0) (wCons (w1 dLen (wVar 1)) wNil)))))
def N_L_great : List Str := ["_law_bowl_here", "_law_parts", "_law_below", "_law_turn"]
def w_L_great : WS := (sSeq (sParM2 1 2 (mE (wLst (wComp (wRng1 (W.ret (.int 3))) (gNm 3) (W.ret true) (wCall F_L_ladle (wCons (wVar 0) (wCons (xBin fPow (W.ret (.int 10)) (W.ret (.int 10))) wNil))) [3])) (mE (wLst (wSz (wCons (xBin fPow (W.ret (.int 10)) (W.ret (.int 28))) (wCons (W.ret (.int 1000)) (wCons (xBin fPow (W.ret (.int 10)) (W.ret (.int 12))) (wCons (xBin fPow (W.ret (.int 10)) (W.ret (.int 28))) wNil)))))) mNil))) (sRet (xBin fMod (w1 dInt (xBin fAdd (xBin fAdd (xBin fMul (xBin fIdx (wVar 1) (W.ret (.int 0))) (xBin fPow (W.ret (.int 10)) (W.ret (.int 20)))) (xBin fMul (xBin fIdx (wVar 1) (W.ret (.int 1))) (xBin fPow (W.ret (.int 10)) (W.ret (.int 10))))) (xBin fIdx (wVar 1) (W.ret (.int 2))))) (wCall F_L_pick (wCons (wVar 0) (wCons (wVar 2) wNil))))))
def N_L_drawn_row : List Str := ["_law_bowl_here", "_law_most", "_law_length", "_law_way", "_law_turn"]
def w_L_drawn_row : WS := (sSeq (sAsg (wTup (wCons (xBin fAdd (W.ret (.int 1)) (wCall F_L_ladle (wCons (wVar 0) (wCons (wVar 1) wNil)))) (wCons (wCall F_L_ladle (wCons (wVar 0) (wCons (W.ret (.int 4)) wNil))) wNil))) (gTupP (gsCons (gNm 2) (gsCons (gNm 3) gsNil)) 2)) (sSeq (sIf (wTest (xBin fEq (wVar 3) (W.ret (.int 0)))) (sRet (w1 dTuple (wLst (wComp (wRng1 (wVar 2)) (gNm 4) (W.ret true) (wCall F_L_great (wCons (wVar 0) wNil)) [4])))) sNil) (sSeq (sIf (wTest (xBin fEq (wVar 3) (W.ret (.int 1)))) (sRet (wCall F_L_dealt (wCons (wVar 0) (wCons (wCall F_L_great (wCons (wVar 0) wNil)) (wCons (wVar 2) wNil))))) sNil) (sRet (w1 dTuple (wLst (wComp (wRng1 (wVar 2)) (gNm 4) (W.ret true) (wCall F_L_ladle (wCons (wVar 0) (wCons (xBin fIdx (wLst (wSz (wCons (W.ret (.int 4)) (wCons (W.ret (.int 8)) wNil)))) (wBin dSub (wVar 3) (W.ret (.int 2)))) wNil))) [4])))))))
def N_L_moved : List Str := ["_law_row", "_law_source", "_law_goal", "_law_many", "_law_found"]
def w_L_moved : WS := (sSeq (sSetOwn 4 (w1F dItems (wVar 0))) (sSeq (sSetIx 4 (wVar 1) (wBin dSub (wIxOwn 4 (wVar 1)) (wVar 3))) (sSeq (sSetIx 4 (wVar 2) (xBin fAdd (wIxOwn 4 (wVar 2)) (wVar 3))) (sRet (w1 dTuple (wOwn 4))))))
def N_L_mixed : List Str := ["_law_bowl_here", "_law_items", "_law_left", "_law_turn"]
def w_L_mixed : WS := (sSeq (sSetOwn 2 (w1F dItems (wVar 1))) (sRet (wLst (wComp (wRng1 (w1 dLen (wVar 1))) (gNm 3) (W.ret true) (wPopAt 2 (wCall F_L_ladle (wCons (wVar 0) (wCons (w1 dLen (wOwn 2)) wNil)))) [3]))))
def N_L_near_row : List Str := ["_law_bowl_here", "_law_row", "_law_turn", "_law_way", "_law_found", "_law_many", "_law_source", "_law_goal"]
def w_L_near_row : WS := (sSeq (sParM2 3 4 (mE (wCall F_L_ladle (wCons (wVar 0) (wCons (W.ret (.int 5)) wNil))) (mE (wVar 1) mNil))) (sSeq (sIf (wTest (xBin fEq (wVar 3) (W.ret (.int 0)))) (sRet (wCall F_L_dealt (wCons (wVar 0) (wCons (x1 fSum (wVar 1)) (wCons (w1 dLen (wVar 1)) wNil))))) sNil) (sSeq (sFor (wRng1 (wCall F_L_pick (wCons (wVar 0) (wCons (wLst (wSz (wCons (W.ret (.int 1)) (wCons (W.ret (.int 1)) (wCons (W.ret (.int 2)) (wCons (W.ret (.int 3)) wNil)))))) wNil)))) (gNm 2) (sSeq (sParM2 6 7 (mE (wCall F_L_ladle (wCons (wVar 0) (wCons (w1 dLen (wVar 1)) wNil))) (mE (wCall F_L_ladle (wCons (wVar 0) (wCons (w1 dLen (wVar 1)) wNil))) mNil))) (sSeq (sSet 5 (wIf (wTest (xBin fEq (wVar 3) (W.ret (.int 1)))) (xBin fDiv (xBin fMul (xBin fIdx (wVar 4) (wVar 6)) (wCall F_L_ladle (wCons (wVar 0) (wCons (W.ret (.int 4)) wNil)))) (W.ret (.int 3))) (wN dMin2 (wCons (W.ret (.int 1)) (wCons (xBin fIdx (wVar 4) (wVar 6)) wNil))))) (sSet 4 (wCall F_L_moved (wCons (wVar 4) (wCons (wVar 6) (wCons (wVar 7) (wCons (wVar 5) wNil))))))))) (sRet (wIf (wTest (xBin fEq (wVar 3) (W.ret (.int 2)))) (w1 dTuple (wCall F_L_mixed (wCons (wVar 0) (wCons (wVar 4) wNil)))) (wVar 4))))))
def N_arranged : List Str := ["row", "like", "places", "found", "index"]
def w_arranged : WS := (sSeq (sDrop (wCall F_require_rows (wCons (wVar 0) (wCons (wVar 1) wNil)))) (sSeq (sIf (wTest (xBin fNe (w1 dLen (wVar 0)) (w1 dLen (wVar 1)))) (sRaise "InvalidOperation") sNil) (sSeq (sSet 2 (wLst (wSortKey [.neg 1, .self] (w1 dLen (wVar 1))))) (sSeq (sSet 3 (wDictZip (wZa (wCons (wVar 2) (wCons (wCall F_falling (wCons (wVar 0) wNil)) wNil))))) (sRet (w1 dTuple (wLst (wComp (wRng1 (w1 dLen (wVar 1))) (gNm 4) (W.ret true) (wDGet (wVar 3) (wVar 4)) [4]))))))))
def N_L_odd_row : List Str := ["_law_bowl_here", "_law_some"]
def w_L_odd_row : WS := (sSeq (sSet 1 (wLst (wSz (wCons (W.ret .non) (wCons (W.ret (.int 0)) (wCons (wTup wNil) (wCons (wLst (wSz (wCons (W.ret (.int 1)) (wCons (W.ret (.int 2)) wNil)))) (wCons (wTup (wCons (W.ret (.int 1)) (wCons (wNeg (W.ret (.int 1))) wNil))) (wCons (wTup (wCons (W.ret (.bl true)) (wCons (W.ret (.int 0)) wNil))) (wCons (wTup (wCons (W.ret (.int 1)) (wCons (W.ret .non) wNil))) (wCons (wTup (wCons (W.ret (.str "1")) wNil)) (wCons (wTup (wCons (W.ret (.int 1)) (wCons (wTup (wCons (W.ret (.int 0)) wNil)) wNil))) (wCons (W.ret (.str "")) (wCons (W.ret (.dic [])) (wCons (wTup (wCons (xBin fPow (W.ret (.int 10)) (W.ret (.int 30))) wNil)) (wCons (xBin fMul (wTup (wCons (W.ret (.int 0)) wNil)) (W.ret (.int 65))) wNil)))))))))))))))) (sRet (wCall F_L_pick (wCons (wVar 0) (wCons (xBin fAdd (wVar 1) (wLst (wSz (wCons (W.ret (.dic [(Sum.inl 0, .int 1)])) (wCons (wTup (wCons (wTup (wCons (W.ret (.int 1)) (wCons (W.ret (.int 0)) wNil))) wNil)) (wCons (wTup (wCons (W.ret (.int 1)) (wCons (W.ret (.int 0)) (wCons (xBin fPow (W.ret (.int 10)) (W.ret (.int 39))) wNil)))) (wCons (W.ret (.bl false)) (wCons (wLst (wSz (wCons (wTup wNil) wNil))) (wCons (wTup (wCons (W.ret (.int 0)) (wCons (W.ret (.bl false)) wNil))) wNil))))))))) wNil)))))
def N_L_down : List Str := ["_law_row"]
def w_L_down : WS := (sRet (w1 dTuple (wLst (wRev (wLst (wSort false (wVar 0)))))))
def N_L_heads : List Str := ["_law_row", "_law_entry", "_law_found", "_law_total"]
def w_L_heads : WS := (sSeq (sParM2 2 3 (mF (wSz wNil) (mE (W.ret (.int 0)) mNil))) (sSeq (sFor (wItems (wCall F_L_down (wCons (wVar 0) wNil))) (gNm 1) (sSeq (sSet 3 (xBin fAdd (wVar 3) (wVar 1))) (sDrop (wAppend 2 (wVar 3))))) (sRet (wFrz 2))))
def N_L_under : List Str := ["_law_one", "_law_other", "_law_first", "_law_second"]
def w_L_under : WS := (sSeq (sIf (tOrP (wTest (xBin fNe (w1 dLen (wVar 0)) (w1 dLen (wVar 1)))) (wTest (xBin fNe (x1 fSum (wVar 0)) (x1 fSum (wVar 1))))) (sRet (W.ret (.bl false))) sNil) (sRet (xBin fEq (wLst (wComp (wZip (wCall F_L_heads (wCons (wVar 0) wNil)) (wCall F_L_heads (wCons (wVar 1) wNil))) (gTupP (gsCons (gNm 2) (gsCons (gNm 3) gsNil)) 2) (wTest (wBin dGt (wVar 2) (wVar 3))) (W.ret (.int 1)) [2, 3])) (wLst (wSz wNil)))))
def N_L_is_way : List Str := ["_law_row", "_law_lower", "_law_steps", "_law_found", "_law_step", "_law_later"]
def w_L_is_way : WS := (sSeq (sSet 3 (wVar 0)) (sSeq (sFor (wItems (wVar 2)) (gNm 4) (sSeq (sIf (tOrP (wTest (xBin fNe (w1 dLen (wVar 4)) (W.ret (.int 3)))) (tOrP (tNotP (wTest (wChain dLe dLt (W.ret (.int 0)) (xBin fIdx (wVar 4) (W.ret (.int 0))) (w1 dLen (wVar 0))))) (tNotP (wTest (wChain dLe dLt (W.ret (.int 0)) (xBin fIdx (wVar 4) (W.ret (.int 1))) (w1 dLen (wVar 0))))))) (sRet (W.ret (.bl false))) sNil) (sSeq (sIf (tOrP (wTest (wBin dLt (xBin fIdx (wVar 4) (W.ret (.int 2))) (W.ret (.int 1)))) (wTest (wBin dLt (xBin fIdx (wVar 3) (xBin fIdx (wVar 4) (W.ret (.int 0)))) (xBin fAdd (xBin fIdx (wVar 3) (xBin fIdx (wVar 4) (W.ret (.int 1)))) (xBin fMul (W.ret (.int 2)) (xBin fIdx (wVar 4) (W.ret (.int 2)))))))) (sRet (W.ret (.bl false))) sNil) (sSeq (sSet 5 (wCall F_L_moved (wCons (wVar 3) (wCons (xBin fIdx (wVar 4) (W.ret (.int 0))) (wCons (xBin fIdx (wVar 4) (W.ret (.int 1))) (wCons (xBin fIdx (wVar 4) (W.ret (.int 2))) wNil)))))) (sSeq (sIf (tOrP (tNotP (wTest (wCall F_L_under (wCons (wVar 5) (wCons (wVar 3) wNil))))) (wTest (xBin fEq (wCall F_L_down (wCons (wVar 5) wNil)) (wCall F_L_down (wCons (wVar 3) wNil))))) (sRet (W.ret (.bl false))) sNil) (sSet 3 (wVar 5))))))) (sRet (xBin fEq (wVar 3) (wVar 1)))))
def N_behind : List Str := ["row", "steps", "entries", "one", "other", "many"]
def w_behind : WS := (sSeq (sSetOwn 2 (w1F dItems (wVar 0))) (sSeq (sFor (wItems (wVar 1)) (gTupP (gsCons (gNm 3) (gsCons (gNm 4) (gsCons (gNm 5) gsNil))) 3) (sSeq (sIf (wTest (wBin dLt (wIxOwn 2 (wVar 3)) (xBin fAdd (wIxOwn 2 (wVar 4)) (xBin fMul (W.ret (.int 2)) (wVar 5))))) (sRet (W.ret .non)) sNil) (sSeq (sAugIx 2 (wVar 3) iSub (wVar 5)) (sAugIx 2 (wVar 4) iAdd (wVar 5))))) (sRet (w1 dTuple (wOwn 2)))))
def N_is_road : List Str := ["row", "lower", "value"]
def w_is_road : WS := (sSeq (sDrop (wCall F_require_rows (wCons (wVar 0) (wCons (wVar 1) wNil)))) (sRet (wAnd (wCall F_are_steps (wCons (wVar 2) (wCons (w1 dLen (wVar 0)) wNil))) (xBin fEq (wCall F_behind (wCons (wVar 0) (wCons (wVar 2) wNil))) (wVar 1)))))
def N_after : List Str := ["row", "steps", "found"]
def w_after : WS := (sSeq (sDrop (wCall F_require_row (wCons (wVar 0) wNil))) (sSeq (sSet 2 (wIf (wTest (wCall F_are_steps (wCons (wVar 1) (wCons (w1 dLen (wVar 0)) wNil)))) (wCall F_behind (wCons (wVar 0) (wCons (wVar 1) wNil))) (W.ret .non))) (sSeq (sIf (wTest (wBin dIs (wVar 2) (W.ret .non))) (sRaise "InvalidOperation") sNil) (sRet (wVar 2)))))
def N_L_half : List Str := ["_law_row", "_law_lower", "_law_first", "_law_second"]
def w_L_half : WS := (sRet (xBin fDiv (x1 fSum (wLst (wComp (wZip (wCall F_L_down (wCons (wVar 0) wNil)) (wCall F_L_down (wCons (wVar 1) wNil))) (gTupP (gsCons (gNm 2) (gsCons (gNm 3) gsNil)) 2) (W.ret true) (wN dAbs (wCons (wBin dSub (wVar 2) (wVar 3)) wNil)) [2, 3]))) (W.ret (.int 2))))
def N_L_road_right : List Str := ["_law_row", "_law_lower", "_law_told"]
def w_L_road_right : WS := (sSeq (sSet 2 (wOut cls_L_outcome hs_L_outcome (wCall F_road (wCons (wVar 0) (wCons (wVar 1) wNil))))) (sSeq (sIf (tNotP (wTest (wCall F_L_under (wCons (wVar 1) (wCons (wVar 0) wNil))))) (sRet (wAnd (xBin fEq (wVar 2) (wLst (wSz (wCons (W.ret (.str "operation")) wNil)))) (xBin fEq (wOut cls_L_outcome hs_L_outcome (wCall F_fewest_units (wCons (wVar 0) (wCons (wVar 1) wNil)))) (wLst (wSz (wCons (W.ret (.str "operation")) wNil)))))) sNil) (sSeq (sIf (tOrP (tNotP (wTest (w1 (dIsi "tuple") (wVar 2)))) (tOrP (wTest (wBin dGt (w1 dLen (wVar 2)) (wBin dSub (w1 dLen (wVar 0)) (W.ret (.int 1))))) (tNotP (wTest (wCall F_L_is_way (wCons (wVar 0) (wCons (wVar 1) (wCons (wVar 2) wNil)))))))) (sRet (W.ret (.bl false))) sNil) (sSeq (sIf (tOrP (wTest (wBin dIsNot (wCall F_is_road (wCons (wVar 0) (wCons (wVar 1) (wCons (wVar 2) wNil)))) (W.ret (.bl true)))) (wTest (xBin fNe (wCall F_after (wCons (wVar 0) (wCons (wVar 2) wNil))) (wVar 1)))) (sRet (W.ret (.bl false))) sNil) (sRet (wBin dEqS (x1 fReprA (wLst (wSz (wCons (wCall F_units (wCons (wVar 2) wNil)) (wCons (wCall F_fewest_units (wCons (wVar 0) (wCons (wVar 1) wNil))) wNil))))) (x1 fReprA (xBin fMul (wLst (wSz (wCons (wCall F_L_half (wCons (wVar 0) (wCons (wVar 1) wNil))) wNil))) (W.ret (.int 2))))))))))
def N_is_arranged_alike : List Str := ["one", "other"]
def w_is_arranged_alike : WS := (sSeq (sDrop (wCall F_require_rows (wCons (wVar 0) (wCons (wVar 1) wNil)))) (sRet (wAnd (xBin fEq (w1 dLen (wVar 0)) (w1 dLen (wVar 1))) (wCall F_are_arranged_alike (wCons (wVar 0) (wCons (wVar 1) wNil))))))
def N_L_right : List Str := ["_law_bowl_here", "_law_row", "_law_lower", "_law_turned", "_law_told", "_law_odd", "_law_wrong"]
def w_L_right : WS := (sSeq (sSet 1 (wCall F_L_drawn_row (wCons (wVar 0) (wCons (W.ret (.int 7)) wNil)))) (sSeq (sSet 2 (wCall F_L_near_row (wCons (wVar 0) (wCons (wVar 1) wNil)))) (sSeq (sSet 3 (wCall F_arranged (wCons (wVar 2) (wCons (wVar 1) wNil)))) (sSeq (sIf (tOrP (tNotP (wTest (wCall F_L_road_right (wCons (wVar 1) (wCons (wVar 3) wNil))))) (tNotP (wTest (wCall F_L_road_right (wCons (wCall F_arranged (wCons (wVar 1) (wCons (wVar 2) wNil))) (wCons (wVar 2) wNil)))))) (sRet (W.ret (.bl false))) sNil) (sSeq (sIf (tAndP (tNotP (wTest (wCall F_is_arranged_alike (wCons (wVar 1) (wCons (wVar 2) wNil))))) (wTest (xBin fNe (wOut cls_L_outcome hs_L_outcome (wCall F_road (wCons (wVar 1) (wCons (wVar 2) wNil)))) (wLst (wSz (wCons (W.ret (.str "operation")) wNil)))))) (sRet (W.ret (.bl false))) sNil) (sSeq (sAsg (wTup (wCons (wCall F_L_odd_row (wCons (wVar 0) wNil)) (wCons (xBin fAdd (wSl (wVar 1) (W.ret none) (wPart (wNeg (W.ret (.int 1))))) (wTup (wCons (xBin fAdd (xBin fIdx (wVar 1) (wNeg (W.ret (.int 1)))) (W.ret (.int 1))) wNil))) wNil))) (gTupP (gsCons (gNm 5) (gsCons (gNm 6) gsNil)) 2)) (sSeq (sSetOwn 4 (wSz (wCons (wOut cls_L_outcome hs_L_outcome (wCall F_road (wCons (wVar 5) (wCons (wVar 1) wNil)))) wNil))) (sSeq (sDrop (wAppend 4 (wOut cls_L_outcome hs_L_outcome (wCall F_road (wCons (wVar 1) (wCons (wVar 5) wNil)))))) (sSeq (sDrop (wAppend 4 (wOut cls_L_outcome hs_L_outcome (wCall F_fewest_units (wCons (wVar 5) (wCons (wVar 6) wNil)))))) (sSeq (sDrop (wAppend 4 (wOut cls_L_outcome hs_L_outcome (wCall F_road (wCons (wVar 1) (wCons (wVar 6) wNil)))))) (sSeq (sDrop (wAppend 4 (wOut cls_L_outcome hs_L_outcome (wCall F_fewest_units (wCons (wVar 1) (wCons (wVar 6) wNil)))))) (sSeq (sDrop (wAppend 4 (wOut cls_L_outcome hs_L_outcome (wCall F_road (wCons (wVar 1) (wCons (xBin fAdd (wVar 1) (wTup (wCons (W.ret (.int 0)) wNil))) wNil)))))) (sSeq (sIf (wTest (xBin fNe (wFrz 4) (xBin fAdd (xBin fMul (wLst (wSz (wCons (wLst (wSz (wCons (W.ret (.str "sums")) wNil))) wNil))) (W.ret (.int 3))) (xBin fMul (wLst (wSz (wCons (wLst (wSz (wCons (W.ret (.str "operation")) wNil))) wNil))) (W.ret (.int 3)))))) (sRet (W.ret (.bl false))) sNil) (sRet (wAnd (xBin fEq (wCall F_road (wCons (wVar 1) (wCons (wVar 1) wNil))) (wTup wNil)) (xBin fEq (wCall F_fewest_units (wCons (wVar 1) (wCons (wRevT (wVar 1)) wNil))) (W.ret (.int 0))))))))))))))))))
def N_L_fewest : List Str := ["_law_row", "_law_lower", "_law_turn", "_law_now", "_law_known", "_law_later", "_law_one", "_law_source", "_law_ways", "_law_goal"]
def w_L_fewest : WS := (sSeq (sParDT 3 4 (wLst (wSz (wCons (wCall F_L_down (wCons (wVar 0) wNil)) wNil))) (wCall F_L_down (wCons (wVar 0) wNil)) (W.ret (.bl true))) (sSeq (sFor (wRng1 (W.ret (.int 12))) (gNm 2) (sSeq (sIf (wTest (xBin fIn (wCall F_L_down (wCons (wVar 1) wNil)) (wVar 3))) (sRet (wVar 2)) sNil) (sSeq (sSetOwn 5 (wSz wNil)) (sSeq (sFor (wItems (wVar 3)) (gNm 6) (sFor (wRng1 (w1 dLen (wVar 6))) (gNm 7) (sSeq (sSet 8 (wLst (wComp (wRng1 (w1 dLen (wVar 6))) (gNm 9) (wTest (wBin dGe (xBin fIdx (wVar 6) (wVar 7)) (xBin fAdd (xBin fIdx (wVar 6) (wVar 9)) (W.ret (.int 2))))) (wVar 9) [9]))) (sDrop (wExtend 5 (wLst (wComp (wItems (wVar 8)) (gNm 9) (W.ret true) (wCall F_L_down (wCons (wCall F_L_moved (wCons (wVar 6) (wCons (wVar 7) (wCons (wVar 9) (wCons (W.ret (.int 1)) wNil))))) wNil)) [9]))))))) (sSeq (sFrzO 5 (sSetCompK 3 4 (wComp (wItems (wLst (wSortSetT (wVar 5)))) (gNm 6) (wTest (wNoDit (wVar 6) (wVar 4))) (wVar 6) [6]))) (sDrop (wUpdT 4 (wDictT (wLst (wComp (wItems (wVar 3)) (gNm 6) (W.ret true) (wTup (wCons (wVar 6) (wCons (W.ret (.bl true)) wNil))) [6])))))))))) (sRet (W.ret .non))))
def N_L_small_right : List Str := ["_law_bowl_here", "_law_row", "_law_lower", "_law_due", "_law_told", "_law_turn", "_law_entry"]
def w_L_small_right : WS := (sSeq (sSet 1 (w1 dTuple (wLst (wComp (wRng1 (xBin fAdd (W.ret (.int 1)) (wCall F_L_ladle (wCons (wVar 0) (wCons (W.ret (.int 4)) wNil))))) (gNm 5) (W.ret true) (wCall F_L_ladle (wCons (wVar 0) (wCons (W.ret (.int 4)) wNil))) [5])))) (sSeq (sSet 1 (wIf (wTest (wBin dLt (x1 fSum (wVar 1)) (W.ret (.int 9)))) (wVar 1) (w1 dTuple (wLst (wComp (wItems (wVar 1)) (gNm 6) (W.ret true) (xBin fDiv (wVar 6) (W.ret (.int 2))) [6]))))) (sSeq (sSet 2 (wCall F_L_near_row (wCons (wVar 0) (wCons (wVar 1) wNil)))) (sSeq (sSet 3 (wCall F_L_fewest (wCons (wVar 1) (wCons (wVar 2) wNil)))) (sSeq (sSet 4 (wOut cls_L_outcome hs_L_outcome (wCall F_fewest_units (wCons (wVar 1) (wCons (wVar 2) wNil))))) (sRet (wBin dEqS (x1 fReprA (wVar 4)) (x1 fReprA (wIf (wTest (wBin dIs (wVar 3) (W.ret .non))) (wLst (wSz (wCons (W.ret (.str "operation")) wNil))) (wVar 3))))))))))
def N_law : List Str := ["_law_script", "_law_at", "_law_told", "_law_bowl_here"]
def w_law : WS := (sSeq (sFor (wRng1 (wN dMax2 (wCons (W.ret (.int 1)) (wCons (wN dMin2 (wCons (W.ret (.int 8)) (wCons (w1 dLen (wVar 0)) wNil))) wNil)))) (gNm 1) (sSeq (sSet 3 (wCall F_L_bowl (wCons (wVar 0) (wCons (wVar 1) wNil)))) (sIf (tOrP (tNotP (wTest (wCall F_L_right (wCons (wVar 3) wNil)))) (tNotP (wTest (wCall F_L_small_right (wCons (wVar 3) wNil))))) (sRet (W.ret (.bl false))) sNil))) (sSeq (sSet 2 (wLst (wSz (wCons (wCall F_fewest_units (wCons (wTup (wCons (W.ret (.int 5)) (wCons (W.ret (.int 1)) (wCons (W.ret (.int 0)) wNil)))) (wCons (wTup (wCons (W.ret (.int 2)) (wCons (W.ret (.int 2)) (wCons (W.ret (.int 2)) wNil)))) wNil))) (wCons (wCall F_road (wCons (wTup (wCons (W.ret (.int 3)) (wCons (W.ret (.int 1)) wNil))) (wCons (wTup (wCons (W.ret (.int 2)) (wCons (W.ret (.int 2)) wNil))) wNil))) (wCons (wCall F_units (wCons (wCall F_road (wCons (wTup (wCons (W.ret (.int 1)) (wCons (W.ret (.int 0)) (wCons (W.ret (.int 5)) wNil)))) (wCons (wTup (wCons (W.ret (.int 2)) (wCons (W.ret (.int 2)) (wCons (W.ret (.int 2)) wNil)))) wNil))) wNil)) wNil)))))) (sRet (xBin fEq (xBin fAdd (wVar 2) (wLst (wSz (wCons (wOut cls_L_outcome hs_L_outcome (wCall F_road (wCons (wTup (wCons (W.ret (.int 2)) (wCons (W.ret (.int 0)) wNil))) (wCons (wTup (wCons (W.ret (.int 0)) (wCons (W.ret (.int 2)) wNil))) wNil)))) wNil)))) (wLst (wSz (wCons (W.ret (.int 3)) (wCons (wTup (wCons (wTup (wCons (W.ret (.int 0)) (wCons (W.ret (.int 1)) (wCons (W.ret (.int 1)) wNil)))) wNil)) (wCons (W.ret (.int 3)) (wCons (wLst (wSz (wCons (W.ret (.str "operation")) wNil))) wNil))))))))))
end Pr

namespace Pr
open PySem PySem.Spec PyProof.Rows L2 LamX Pd
theorem pure_L_bowl (ds : List D) (Q : D → Prop) (Ex : Xc → Prop) (h : F_L_bowl ds Q Ex) : w_L_bowl (dEnds Q Ex) (startE N_L_bowl ds) := Ph.pure_L_bowl ds Q Ex h
theorem len_L_bowl (ds : List D) (Q : D → Prop) (Ex : Xc → Prop) (h : F_L_bowl ds Q Ex) : ds.length = 2 := Ph.len_L_bowl ds Q Ex h
theorem pure_is_integer (ds : List D) (Q : D → Prop) (Ex : Xc → Prop) (h : F_is_integer ds Q Ex) : w_is_integer (dEnds Q Ex) (startE N_is_integer ds) := Ph.pure_is_integer ds Q Ex h
theorem len_is_integer (ds : List D) (Q : D → Prop) (Ex : Xc → Prop) (h : F_is_integer ds Q Ex) : ds.length = 1 := Ph.len_is_integer ds Q Ex h
theorem pure_is_from (ds : List D) (Q : D → Prop) (Ex : Xc → Prop) (h : F_is_from ds Q Ex) : w_is_from (dEnds Q Ex) (startE N_is_from ds) := Ph.pure_is_from ds Q Ex h
theorem len_is_from (ds : List D) (Q : D → Prop) (Ex : Xc → Prop) (h : F_is_from ds Q Ex) : ds.length = 3 := Ph.len_is_from ds Q Ex h
theorem pure_is_amount (ds : List D) (Q : D → Prop) (Ex : Xc → Prop) (h : F_is_amount ds Q Ex) : w_is_amount (dEnds Q Ex) (startE N_is_amount ds) := Ph.pure_is_amount ds Q Ex h
theorem len_is_amount (ds : List D) (Q : D → Prop) (Ex : Xc → Prop) (h : F_is_amount ds Q Ex) : ds.length = 1 := Ph.len_is_amount ds Q Ex h
theorem pure_is_row (ds : List D) (Q : D → Prop) (Ex : Xc → Prop) (h : F_is_row ds Q Ex) : w_is_row (dEnds Q Ex) (startE N_is_row ds) := Ph.pure_is_row ds Q Ex h
theorem len_is_row (ds : List D) (Q : D → Prop) (Ex : Xc → Prop) (h : F_is_row ds Q Ex) : ds.length = 1 := Ph.len_is_row ds Q Ex h
theorem pure_require_row (ds : List D) (Q : D → Prop) (Ex : Xc → Prop) (h : F_require_row ds Q Ex) : w_require_row (dEnds Q Ex) (startE N_require_row ds) := Ph.pure_require_row ds Q Ex h
theorem len_require_row (ds : List D) (Q : D → Prop) (Ex : Xc → Prop) (h : F_require_row ds Q Ex) : ds.length = 1 := Ph.len_require_row ds Q Ex h
theorem pure_require_rows (ds : List D) (Q : D → Prop) (Ex : Xc → Prop) (h : F_require_rows ds Q Ex) : w_require_rows (dEnds Q Ex) (startE N_require_rows ds) := Ph.pure_require_rows ds Q Ex h
theorem len_require_rows (ds : List D) (Q : D → Prop) (Ex : Xc → Prop) (h : F_require_rows ds Q Ex) : ds.length = 2 := Ph.len_require_rows ds Q Ex h
theorem pure_is_comparable (ds : List D) (Q : D → Prop) (Ex : Xc → Prop) (h : F_is_comparable ds Q Ex) : w_is_comparable (dEnds Q Ex) (startE N_is_comparable ds) := Ph.pure_is_comparable ds Q Ex h
theorem len_is_comparable (ds : List D) (Q : D → Prop) (Ex : Xc → Prop) (h : F_is_comparable ds Q Ex) : ds.length = 2 := Ph.len_is_comparable ds Q Ex h
theorem pure_falling (ds : List D) (Q : D → Prop) (Ex : Xc → Prop) (h : F_falling ds Q Ex) : w_falling (dEnds Q Ex) (startE N_falling ds) := Ph.pure_falling ds Q Ex h
theorem len_falling (ds : List D) (Q : D → Prop) (Ex : Xc → Prop) (h : F_falling ds Q Ex) : ds.length = 1 := Ph.len_falling ds Q Ex h
theorem pure_prefixes (ds : List D) (Q : D → Prop) (Ex : Xc → Prop) (h : F_prefixes ds Q Ex) : w_prefixes (dEnds Q Ex) (startE N_prefixes ds) := Ph.pure_prefixes ds Q Ex h
theorem len_prefixes (ds : List D) (Q : D → Prop) (Ex : Xc → Prop) (h : F_prefixes ds Q Ex) : ds.length = 1 := Ph.len_prefixes ds Q Ex h
theorem pure_bars_of (ds : List D) (Q : D → Prop) (Ex : Xc → Prop) (h : F_bars_of ds Q Ex) : w_bars_of (dEnds Q Ex) (startE N_bars_of ds) := Ph.pure_bars_of ds Q Ex h
theorem len_bars_of (ds : List D) (Q : D → Prop) (Ex : Xc → Prop) (h : F_bars_of ds Q Ex) : ds.length = 2 := Ph.len_bars_of ds Q Ex h
theorem pure_is_below (ds : List D) (Q : D → Prop) (Ex : Xc → Prop) (h : F_is_below ds Q Ex) : w_is_below (dEnds Q Ex) (startE N_is_below ds) := Ph.pure_is_below ds Q Ex h
theorem len_is_below (ds : List D) (Q : D → Prop) (Ex : Xc → Prop) (h : F_is_below ds Q Ex) : ds.length = 2 := Ph.len_is_below ds Q Ex h
theorem pure_are_arranged_alike (ds : List D) (Q : D → Prop) (Ex : Xc → Prop) (h : F_are_arranged_alike ds Q Ex) : w_are_arranged_alike (dEnds Q Ex) (startE N_are_arranged_alike ds) := Ph.pure_are_arranged_alike ds Q Ex h
theorem len_are_arranged_alike (ds : List D) (Q : D → Prop) (Ex : Xc → Prop) (h : F_are_arranged_alike ds Q Ex) : ds.length = 2 := Ph.len_are_arranged_alike ds Q Ex h
theorem pure_is_step (ds : List D) (Q : D → Prop) (Ex : Xc → Prop) (h : F_is_step ds Q Ex) : w_is_step (dEnds Q Ex) (startE N_is_step ds) := Ph.pure_is_step ds Q Ex h
theorem len_is_step (ds : List D) (Q : D → Prop) (Ex : Xc → Prop) (h : F_is_step ds Q Ex) : ds.length = 2 := Ph.len_is_step ds Q Ex h
theorem pure_are_steps (ds : List D) (Q : D → Prop) (Ex : Xc → Prop) (h : F_are_steps ds Q Ex) : w_are_steps (dEnds Q Ex) (startE N_are_steps ds) := Ph.pure_are_steps ds Q Ex h
theorem len_are_steps (ds : List D) (Q : D → Prop) (Ex : Xc → Prop) (h : F_are_steps ds Q Ex) : ds.length = 2 := Ph.len_are_steps ds Q Ex h
theorem pure_units (ds : List D) (Q : D → Prop) (Ex : Xc → Prop) (h : F_units ds Q Ex) : w_units (dEnds Q Ex) (startE N_units ds) := Ph.pure_units ds Q Ex h
theorem len_units (ds : List D) (Q : D → Prop) (Ex : Xc → Prop) (h : F_units ds Q Ex) : ds.length = 1 := Ph.len_units ds Q Ex h
theorem pure_L_ladle (ds : List D) (Q : D → Prop) (Ex : Xc → Prop) (h : F_L_ladle ds Q Ex) : w_L_ladle (dEnds Q Ex) (startE N_L_ladle ds) := Ph.pure_L_ladle ds Q Ex h
theorem len_L_ladle (ds : List D) (Q : D → Prop) (Ex : Xc → Prop) (h : F_L_ladle ds Q Ex) : ds.length = 2 := Ph.len_L_ladle ds Q Ex h
theorem pure_L_dealt (ds : List D) (Q : D → Prop) (Ex : Xc → Prop) (h : F_L_dealt ds Q Ex) : w_L_dealt (dEnds Q Ex) (startE N_L_dealt ds) := Ph.pure_L_dealt ds Q Ex h
theorem len_L_dealt (ds : List D) (Q : D → Prop) (Ex : Xc → Prop) (h : F_L_dealt ds Q Ex) : ds.length = 3 := Ph.len_L_dealt ds Q Ex h
theorem pure_L_pick (ds : List D) (Q : D → Prop) (Ex : Xc → Prop) (h : F_L_pick ds Q Ex) : w_L_pick (dEnds Q Ex) (startE N_L_pick ds) := Ph.pure_L_pick ds Q Ex h
theorem len_L_pick (ds : List D) (Q : D → Prop) (Ex : Xc → Prop) (h : F_L_pick ds Q Ex) : ds.length = 2 := Ph.len_L_pick ds Q Ex h
theorem pure_L_great (ds : List D) (Q : D → Prop) (Ex : Xc → Prop) (h : F_L_great ds Q Ex) : w_L_great (dEnds Q Ex) (startE N_L_great ds) := Ph.pure_L_great ds Q Ex h
theorem len_L_great (ds : List D) (Q : D → Prop) (Ex : Xc → Prop) (h : F_L_great ds Q Ex) : ds.length = 1 := Ph.len_L_great ds Q Ex h
theorem pure_L_drawn_row (ds : List D) (Q : D → Prop) (Ex : Xc → Prop) (h : F_L_drawn_row ds Q Ex) : w_L_drawn_row (dEnds Q Ex) (startE N_L_drawn_row ds) := Ph.pure_L_drawn_row ds Q Ex h
theorem len_L_drawn_row (ds : List D) (Q : D → Prop) (Ex : Xc → Prop) (h : F_L_drawn_row ds Q Ex) : ds.length = 2 := Ph.len_L_drawn_row ds Q Ex h
theorem pure_L_moved (ds : List D) (Q : D → Prop) (Ex : Xc → Prop) (h : F_L_moved ds Q Ex) : w_L_moved (dEnds Q Ex) (startE N_L_moved ds) := Ph.pure_L_moved ds Q Ex h
theorem len_L_moved (ds : List D) (Q : D → Prop) (Ex : Xc → Prop) (h : F_L_moved ds Q Ex) : ds.length = 4 := Ph.len_L_moved ds Q Ex h
theorem pure_L_mixed (ds : List D) (Q : D → Prop) (Ex : Xc → Prop) (h : F_L_mixed ds Q Ex) : w_L_mixed (dEnds Q Ex) (startE N_L_mixed ds) := Ph.pure_L_mixed ds Q Ex h
theorem len_L_mixed (ds : List D) (Q : D → Prop) (Ex : Xc → Prop) (h : F_L_mixed ds Q Ex) : ds.length = 2 := Ph.len_L_mixed ds Q Ex h
theorem pure_L_near_row (ds : List D) (Q : D → Prop) (Ex : Xc → Prop) (h : F_L_near_row ds Q Ex) : w_L_near_row (dEnds Q Ex) (startE N_L_near_row ds) := Ph.pure_L_near_row ds Q Ex h
theorem len_L_near_row (ds : List D) (Q : D → Prop) (Ex : Xc → Prop) (h : F_L_near_row ds Q Ex) : ds.length = 2 := Ph.len_L_near_row ds Q Ex h
theorem pure_arranged (ds : List D) (Q : D → Prop) (Ex : Xc → Prop) (h : F_arranged ds Q Ex) : w_arranged (dEnds Q Ex) (startE N_arranged ds) := Ph.pure_arranged ds Q Ex h
theorem len_arranged (ds : List D) (Q : D → Prop) (Ex : Xc → Prop) (h : F_arranged ds Q Ex) : ds.length = 2 := Ph.len_arranged ds Q Ex h
theorem pure_L_odd_row (ds : List D) (Q : D → Prop) (Ex : Xc → Prop) (h : F_L_odd_row ds Q Ex) : w_L_odd_row (dEnds Q Ex) (startE N_L_odd_row ds) := Ph.pure_L_odd_row ds Q Ex h
theorem len_L_odd_row (ds : List D) (Q : D → Prop) (Ex : Xc → Prop) (h : F_L_odd_row ds Q Ex) : ds.length = 1 := Ph.len_L_odd_row ds Q Ex h
theorem pure_L_down (ds : List D) (Q : D → Prop) (Ex : Xc → Prop) (h : F_L_down ds Q Ex) : w_L_down (dEnds Q Ex) (startE N_L_down ds) := Ph.pure_L_down ds Q Ex h
theorem len_L_down (ds : List D) (Q : D → Prop) (Ex : Xc → Prop) (h : F_L_down ds Q Ex) : ds.length = 1 := Ph.len_L_down ds Q Ex h
theorem pure_L_heads (ds : List D) (Q : D → Prop) (Ex : Xc → Prop) (h : F_L_heads ds Q Ex) : w_L_heads (dEnds Q Ex) (startE N_L_heads ds) := Ph.pure_L_heads ds Q Ex h
theorem len_L_heads (ds : List D) (Q : D → Prop) (Ex : Xc → Prop) (h : F_L_heads ds Q Ex) : ds.length = 1 := Ph.len_L_heads ds Q Ex h
theorem pure_L_under (ds : List D) (Q : D → Prop) (Ex : Xc → Prop) (h : F_L_under ds Q Ex) : w_L_under (dEnds Q Ex) (startE N_L_under ds) := Ph.pure_L_under ds Q Ex h
theorem len_L_under (ds : List D) (Q : D → Prop) (Ex : Xc → Prop) (h : F_L_under ds Q Ex) : ds.length = 2 := Ph.len_L_under ds Q Ex h
theorem pure_behind (ds : List D) (Q : D → Prop) (Ex : Xc → Prop) (h : F_behind ds Q Ex) : w_behind (dEnds Q Ex) (startE N_behind ds) := Ph.pure_behind ds Q Ex h
theorem len_behind (ds : List D) (Q : D → Prop) (Ex : Xc → Prop) (h : F_behind ds Q Ex) : ds.length = 2 := Ph.len_behind ds Q Ex h
theorem pure_is_road (ds : List D) (Q : D → Prop) (Ex : Xc → Prop) (h : F_is_road ds Q Ex) : w_is_road (dEnds Q Ex) (startE N_is_road ds) := Ph.pure_is_road ds Q Ex h
theorem len_is_road (ds : List D) (Q : D → Prop) (Ex : Xc → Prop) (h : F_is_road ds Q Ex) : ds.length = 3 := Ph.len_is_road ds Q Ex h
theorem pure_after (ds : List D) (Q : D → Prop) (Ex : Xc → Prop) (h : F_after ds Q Ex) : w_after (dEnds Q Ex) (startE N_after ds) := Ph.pure_after ds Q Ex h
theorem len_after (ds : List D) (Q : D → Prop) (Ex : Xc → Prop) (h : F_after ds Q Ex) : ds.length = 2 := Ph.len_after ds Q Ex h
theorem pure_is_arranged_alike (ds : List D) (Q : D → Prop) (Ex : Xc → Prop) (h : F_is_arranged_alike ds Q Ex) : w_is_arranged_alike (dEnds Q Ex) (startE N_is_arranged_alike ds) := Ph.pure_is_arranged_alike ds Q Ex h
theorem len_is_arranged_alike (ds : List D) (Q : D → Prop) (Ex : Xc → Prop) (h : F_is_arranged_alike ds Q Ex) : ds.length = 2 := Ph.len_is_arranged_alike ds Q Ex h
end Pr

namespace Pr
open PySem PySem.Spec PyProof.Rows L2 LamX Pd
open Ph (lenC)
theorem gap_items (a b : List Int) : dItems (.lst (((dn a).zip (dn b)).map fun q => D.int (Ph.absI (q.1 - q.2)))) = some ((((dn a).zip (dn b)).map fun q => Ph.absI (q.1 - q.2)).map D.int) := by
  show some (List.map _ _) = some (List.map _ (List.map _ _))
  rw [List.map_map]
  rfl
theorem pure_fewest_units (ds : List D) (Q : D → Prop) (Ex : Xc → Prop) (h : F_fewest_units ds Q Ex) : w_fewest_units (dEnds Q Ex) (startE N_fewest_units ds) := by
  obtain ⟨x, y, rfl, t⟩ := h
  refine ⟨x, y, rfl, Ph.two_in t fun a b ea eb ra rb r => ?_⟩
  subst ea eb
  have la := ra.2.1
  have lb := rb.2.1
  refine ⟨b, a, rfl, by omega, by omega, ?_⟩
  show br (!(Ph.belowI b a)) _ _
  cases e : Ph.belowI b a with
  | false => exact br_tt rfl (r.2 e)
  | true =>
    refine br_ff rfl ⟨Ti a, a, rfl, rfl, Ti b, b, rfl, rfl, ?_⟩
    refine Ph.comp_zip (fun s z => [some (.d (Ti a)), some (.d (Ti b)), s, z]) (fun x y => .int (Ph.absI (x - y))) none none (fun _ _ _ _ => rfl) (fun x y K ex h => h) fun s z => ?_
    exact ⟨_, gap_items a b, by decide, r.1 e⟩
theorem len_fewest_units (ds : List D) (Q : D → Prop) (Ex : Xc → Prop) (h : F_fewest_units ds Q Ex) : ds.length = 2 := by
  obtain ⟨x, y, rfl, _⟩ := h
  rfl
theorem pure_L_half (ds : List D) (Q : D → Prop) (Ex : Xc → Prop) (h : F_L_half ds Q Ex) : w_L_half (dEnds Q Ex) (startE N_L_half ds) := by
  obtain ⟨a, b, rfl, hl, l64, q⟩ := h
  refine ⟨Ti a, a, rfl, rfl, by omega, Ti b, b, rfl, rfl, by omega, ?_⟩
  refine Ph.comp_zip (fun s z => [some (.d (Ti a)), some (.d (Ti b)), s, z]) (fun x y => .int (Ph.absI (x - y))) none none (fun _ _ _ _ => rfl) (fun x y K ex h => h) fun s z => ?_
  exact ⟨_, gap_items a b, by decide, q⟩
theorem len_L_half (ds : List D) (Q : D → Prop) (Ex : Xc → Prop) (h : F_L_half ds Q Ex) : ds.length = 2 := by
  obtain ⟨x, y, rfl, _⟩ := h
  rfl
theorem below_len {a b : List Int} (h : Ph.belowI b a = true) : b.length = a.length := by
  unfold Ph.belowI Ph.cmpI at h
  simp only [Bool.and_eq_true, decide_eq_true_eq] at h
  exact h.1.1
theorem pure_road (ds : List D) (Q : D → Prop) (Ex : Xc → Prop) (h : F_road ds Q Ex) : w_road (dEnds Q Ex) (startE N_road ds) := by
  obtain ⟨x, y, rfl, t⟩ := h
  refine ⟨x, y, rfl, Ph.two_in t fun a b ea eb ra rb r => ?_⟩
  subst ea eb
  have la := ra.2.1
  have lb := rb.2.1
  refine ⟨b, a, rfl, by omega, by omega, ?_⟩
  show br (!(Ph.belowI b a)) _ _
  cases e : Ph.belowI b a with
  | false => exact br_tt rfl (br_tt rfl (r.2 fun z => by rw [e] at z; cases z.1))
  | true =>
    refine br_ff rfl ⟨a, b, rfl, by omega, by omega, ?_⟩
    show br (!(Ph.alk (a.zip b))) _ _
    cases k : Ph.alk (a.zip b) with
    | false => exact br_tt rfl (r.2 fun z => by rw [k] at z; cases z.2)
    | true =>
      refine br_ff rfl ⟨a, b, rfl, (below_len e).symm, ra.1, la, e, k, ?_⟩
      exact r.1 ⟨e, k⟩
theorem len_road (ds : List D) (Q : D → Prop) (Ex : Xc → Prop) (h : F_road ds Q Ex) : ds.length = 2 := by
  obtain ⟨x, y, rfl, _⟩ := h
  rfl
theorem wlk_cons {r : List Int} {q : Ph.Stp} {t : List Ph.Stp} {b : List Int} (h : Ph.wlk r (q :: t) = some b) : Ph.fitB r q = true ∧ Ph.wlk (Ph.mvd r q) t = some b := by
  have h : (if Ph.fitB r q = true then Ph.wlk (Ph.mvd r q) t else none) = some b := h
  by_cases f : Ph.fitB r q = true
  · rw [if_pos f] at h
    exact ⟨f, h⟩
  · rw [if_neg f] at h
    cases h
theorem pure_L_is_way (ds : List D) (Q : D → Prop) (Ex : Xc → Prop) (h : F_L_is_way ds Q Ex) : w_L_is_way (dEnds Q Ex) (startE N_L_is_way ds) := by
  obtain ⟨a, b, f, rfl, l64, hw, q⟩ := h
  refine forW_ind (fun rest env => ∃ (g : List Ph.Stp) (c : List Int) (j4 j5 : Option Sl), rest = g.map Ph.encS ∧ c.length = a.length ∧ Ph.wlk c g = some b ∧ env = [some (.d (Ti a)), some (.d (Ti b)), some (.d (.tup (f.map Ph.encS))), some (.d (Ti c)), j4, j5]) ?_ ?_ _ _ ⟨f, a, none, none, rfl, rfl, hw, rfl⟩
  · rintro x rest env ⟨g, c, j4, j5, er, lc, w, rfl⟩ ih
    cases g with
    | nil => cases er
    | cons s g =>
      cases er
      obtain ⟨fit, w2⟩ := wlk_cons w
      obtain ⟨ne, s0, s1, g0, g1, m1, le⟩ := Ph.fit_iff.mp fit
      obtain ⟨xs, ex, ex2, _⟩ := Ph.at_mem s0 s1
      obtain ⟨ys, ey, ey2, _⟩ := Ph.at_mem g0 g1
      obtain ⟨u1, u2⟩ := Ph.fit_under fit
      rw [ex2, ey2] at le
      obtain ⟨s, g', m⟩ := s
      have s0 : 0 ≤ s := s0
      have g0 : 0 ≤ g' := g0
      have la : (a.map D.int).length = a.length := List.length_map _
      have ix : ∀ {i v : Int}, 0 ≤ i → c[i.toNat]? = some v → dIdx (Ti c) (.int i) = some (.int v) := fun {i v} h e => Ph.idx_items rfl h (by rw [List.getElem?_map, e]; rfl)
      have i0 : dIdx (Ph.encS (s, g', m)) (.int 0) = some (.int s) := rfl
      have i1 : dIdx (Ph.encS (s, g', m)) (.int 1) = some (.int g') := rfl
      have i2 : dIdx (Ph.encS (s, g', m)) (.int 2) = some (.int m) := rfl
      refine ⟨rfl, ?_⟩
      rw [Ph.eqb_int]
      refine br_no (br_if (fun _ => ?_) (fun z => absurd rfl z))
      refine ⟨_, i0, br_if (fun _ => ?_) (fun z => absurd s0 z)⟩
      refine br_no (br_if (fun _ => ?_) (fun z => absurd (show s < ((a.map D.int).length : Int) by rw [la]; have s1 : s < (c.length : Int) := s1; omega) z))
      refine ⟨_, i1, br_if (fun _ => ?_) (fun z => absurd g0 z)⟩
      refine br_no (br_if (fun _ => ?_) (fun z => absurd (show g' < ((a.map D.int).length : Int) by rw [la]; have g1 : g' < (c.length : Int) := g1; omega) z))
      refine ⟨_, i2, br_if (fun z => absurd m1 (by show ¬ 1 ≤ m; have z : m < 1 := z; omega)) (fun _ => ?_)⟩
      refine ⟨_, i0, _, ix s0 ex, _, i1, _, ix g0 ey, _, i2, .inl (.inl (by decide)), ?_⟩
      have le : ys + 2 * m ≤ xs := le
      refine br_if (fun z => absurd le (by have z : xs < ys + 2 * m := z; omega)) (fun _ => ?_)
      have em : (c.set s.toNat (xs - m)).set g'.toNat ((c.set s.toNat (xs - m))[g'.toNat]?.getD 0 + m) = Ph.mvd c (s, g', m) := by
        have ex2 : c[s.toNat]?.getD 0 = xs := ex2
        show _ = (c.set s.toNat (c[s.toNat]?.getD 0 - m)).set g'.toNat ((c.set s.toNat (c[s.toNat]?.getD 0 - m))[g'.toNat]?.getD 0 + m)
        rw [ex2]
      have lm : (Ph.mvd c (s, g', m)).length = c.length := Ph.mvd_len _ _
      refine ⟨_, i0, _, i1, _, i2, c, s, g', m, xs, rfl, by omega, s0, g0, g1, ex, ?_⟩
      rw [em]
      refine ⟨_, c, rfl, by omega, by omega, ?_⟩
      rw [u1]
      refine br_ff rfl ⟨_, _, rfl, rfl, by omega, _, c, rfl, rfl, by omega, ?_, ?_⟩
      · show (plain 60 (Ti _) && plain 60 (Ti _)) = true
        rw [Ph.pl_Ti 58, Ph.pl_Ti 58]
        rfl
      rw [Ph.eqb_Ti]
      refine br_ff (decide_eq_false u2) ?_
      exact ih _ ⟨g, _, some (.d (Ph.encS (s, g', m))), some (.d (Ti (Ph.mvd c (s, g', m)))), rfl, by omega, w2, rfl⟩
  · rintro env ⟨g, c, j4, j5, er, lc, w, rfl⟩
    cases g with
    | cons s g => cases er
    | nil =>
      have : c = b := Option.some.inj w
      subst this
      refine ⟨?_, ?_⟩
      · show (plain 60 (Ti c) && plain 60 (Ti c)) = true
        rw [Ph.pl_Ti 58]
        rfl
      · rw [Ph.eqb_Ti, decide_eq_true rfl]
        exact q
theorem len_L_is_way (ds : List D) (Q : D → Prop) (Ex : Xc → Prop) (h : F_L_is_way ds Q Ex) : ds.length = 3 := by
  obtain ⟨x, y, f, rfl, _⟩ := h
  rfl
end Pr

namespace Pr
open PySem PySem.Spec PyProof.Rows L2 LamX Pd
open Ph (Stp encS Stk fill tot Rn)
def Cel (cs : List (Addr × List D)) : List Addr → Stk → Prop
  | [], [] => True
  | q :: qs, p :: st => (q, [.int (p.1 : Int), .int p.2]) ∈ cs ∧ Cel cs qs st
  | _, _ => False
theorem cel_len {cs : List (Addr × List D)} : ∀ {qs : List Addr} {st : Stk}, Cel cs qs st → qs.length = st.length
  | [], [], _ => rfl
  | q :: qs, p :: st, h => congrArg (· + 1) (cel_len h.2)
theorem cel_mem {cs : List (Addr × List D)} : ∀ {qs : List Addr} {st : Stk}, Cel cs qs st → ∀ q ∈ qs, q ∈ cs.map (·.1)
  | [], [], _, q, hq => nomatch hq
  | x :: qs, p :: st, h, q, hq => by
    rcases List.mem_cons.mp hq with rfl | hq
    · exact List.mem_map.mpr ⟨_, h.1, rfl⟩
    · exact cel_mem h.2 q hq
theorem cel_more {cs cs' : List (Addr × List D)} : ∀ {qs : List Addr} {st : Stk}, Cel cs qs st → (∀ q xs, q ∈ qs → (q, xs) ∈ cs → (q, xs) ∈ cs') → Cel cs' qs st
  | [], [], _, _ => trivial
  | x :: qs, p :: st, h, k => ⟨k _ _ List.mem_cons_self h.1, cel_more h.2 fun q xs hq => k q xs (List.mem_cons_of_mem _ hq)⟩
theorem set_mem {cs : List (Addr × List D)} {q : Addr} {xs ys : List D} (h : (q, xs) ∈ cs) : (q, ys) ∈ celSet cs q ys := List.mem_map.mpr ⟨_, h, if_pos rfl⟩
theorem set_other {cs : List (Addr × List D)} {q r : Addr} {xs ys : List D} (ne : r ≠ q) (h : (r, xs) ∈ cs) : (r, xs) ∈ celSet cs q ys := List.mem_map.mpr ⟨_, h, if_neg ne⟩
def rawL (qs : List Addr) : List D := (qs.map fun q => D.raw (.ref q)).reverse
theorem raw_last (q : Addr) (qs : List Addr) : dIdx (.lst (rawL (q :: qs))) (.int (-1)) = some (.raw (.ref q)) := by
  show atI (rawL (q :: qs)) (-1) = _
  rw [Ph.idx_last (by unfold rawL; simp)]
  unfold rawL
  rw [List.map_cons, List.reverse_cons, List.getLast?_append]
  rfl
theorem raw_drop (q : Addr) (qs : List Addr) : (rawL (q :: qs)).dropLast = rawL qs := by
  unfold rawL
  rw [List.map_cons, List.reverse_cons, List.dropLast_concat]
theorem raw_lastq (q : Addr) (qs : List Addr) : (rawL (q :: qs)).getLast? = some (.raw (.ref q)) := by
  unfold rawL
  rw [List.map_cons, List.reverse_cons, List.getLast?_append]
  rfl
abbrev wlBody : WS := (sSeq (sSet 6 (wN dMin2 (wCons (wVar 5) (wCons (wIxC 7 (wIxOwn 4 (wNeg (W.ret (.int 1)))) (W.ret (.int 1))) wNil)))) (sSeq (sDrop (wAppend 3 (wTup (wCons (wIxC 7 (wIxOwn 4 (wNeg (W.ret (.int 1)))) (W.ret (.int 0))) (wCons (wVar 2) (wCons (wVar 6) wNil)))))) (sSeq (sAug 5 iSub (wVar 6)) (sSeq (sAugC 7 (wIxOwn 4 (wNeg (W.ret (.int 1)))) (W.ret (.int 1)) iSub (wVar 6)) (sIf (wTest (xBin fEq (wIxC 7 (wIxOwn 4 (wNeg (W.ret (.int 1)))) (W.ret (.int 1))) (W.ret (.int 0)))) (sDrop (wPop 4)) sNil)))))
abbrev wlE (a b : List Int) (j : Nat) (f : List Stp) (qs : List Addr) (m : Int) (j6 c7 : Option Sl) : PEnv := [some (.d (Ti a)), some (.d (Ti b)), some (.d (.int (j : Int))), some (.own (f.map encS)), some (.own (rawL qs)), some (.d (.int m)), j6, c7]
structure Wtg (c7 : Option Sl) (qs : List Addr) (st : Stk) : Prop where
  ce : Cel (celsOf c7) qs st
  nd : qs.Nodup
  ps : ∀ p ∈ st, 0 < p.2
theorem tot_nn : ∀ st : Stk, (∀ p ∈ st, 0 < p.2) → 0 ≤ tot st
  | [], _ => Int.le_refl _
  | p :: st, h => by
    rw [Ph.tot_cons]
    have := h p List.mem_cons_self
    have := tot_nn st fun q hq => h q (List.mem_cons_of_mem _ hq)
    omega
theorem fill_zero (j : Nat) (st : Stk) : fill j st 0 = ([], st) := by
  cases st with
  | nil => rfl
  | cons p st =>
    obtain ⟨x, y⟩ := p
    exact if_pos (Int.le_refl _)
theorem while_ok {a b : List Int} {j : Nat} (hj : j < 100) (pe : PEnds) : ∀ (f : List Stp) (st : Stk) (qs : List Addr) (m : Int) (j6 c7 : Option Sl), Wtg c7 qs st → m ≤ tot st → f.length + st.length < 1000 →
    (∀ qs' j6' c7', Wtg c7' qs' (if 0 < m then (fill j st m).2 else st) → pe.nx (wlE a b j (f ++ if 0 < m then (fill j st m).1 else []) qs' (if 0 < m then 0 else m) j6' c7')) →
    sWhile (wTest (wBin dGt (wVar 5) (W.ret (.int 0)))) wlBody pe (wlE a b j f qs m j6 c7) := by
  intro f st qs m j6 c7 hd mt fl fin
  by_cases m0 : 0 < m
  · rw [if_pos m0, if_pos m0, if_pos m0] at fin
    refine ⟨fun k env => ∃ (f' : List Stp) (st' : Stk) (qs' : List Addr) (m' : Int) (j6 c7 : Option Sl), Wtg c7 qs' st' ∧ 0 ≤ m' ∧ m' ≤ tot st' ∧ f'.length + st'.length + (if 0 < m' then 1 else 0) ≤ 1001 ∧ f' ++ (fill j st' m').1 = f ++ (fill j st m).1 ∧ (fill j st' m').2 = (fill j st m).2 ∧ k = st'.length + (if 0 < m' then 1 else 0) ∧ env = wlE a b j f' qs' m' j6 c7, ⟨_, f, st, qs, m, j6, c7, hd, by omega, mt, by rw [if_pos m0]; omega, rfl, rfl, rfl, rfl⟩, ?_⟩
    rintro k env ⟨f', st', qs', m', j6, c7, hd, n0, mt, few, e1, e2, ek, rfl⟩
    refine br_if (fun (h : m' > 0) => ?_) (fun (h : ¬ m' > 0) => ?_)
    · rw [if_pos (show 0 < m' from h)] at few ek
      cases st' with
      | nil =>
        have : tot [] = 0 := rfl
        omega
      | cons p st' =>
        obtain ⟨i, u⟩ := p
        cases qs' with
        | nil => exact hd.ce.elim
        | cons q qs' =>
          obtain ⟨ce1, ce2⟩ := hd.ce
          have u0 : 0 < u := hd.ps _ List.mem_cons_self
          have ndq := List.nodup_cons.mp hd.nd
          have g1 : dIdx (.lst [.int (i : Int), .int u]) (.int 1) = some (.int u) := rfl
          have g0 : dIdx (.lst [.int (i : Int), .int u]) (.int 0) = some (.int (i : Int)) := rfl
          have rl := raw_last q qs'
          obtain ⟨mm, emm, hmm⟩ : ∃ mm : Int, (if u < m' then u else m') = mm ∧ (mm = if m' < u then m' else u) := ⟨_, rfl, by split <;> split <;> omega⟩
          refine ⟨.raw (.ref q), rl, _, ce1, _, ce1, .int u, g1, ?_⟩
          have emin : dMin2 [.int m', .int u] = some (.int mm) := by
            show some _ = _
            rw [emm]
          refine ⟨.raw (.ref q), rl, _, ce1, _, ce1, .int (i : Int), g0, Nat.le_of_ble_eq_true rfl, by rw [List.length_map]; omega, ?_⟩
          rw [emm]
          refine ⟨.raw (.ref q), rl, _, ce1, _, ce1, .int u, g1, _, ce1, .int (u - mm), 1, rfl, rfl, ?_⟩
          have ce3 : (q, [D.int (i : Int), .int (u - mm)]) ∈ celSet (celsOf c7) q [.int (i : Int), .int (u - mm)] := set_mem ce1
          refine ⟨.raw (.ref q), rl, _, ce3, _, ce3, .int (u - mm), rfl, rfl, ?_⟩
          rw [Ph.eqb_int]
          have back : ∀ (qs'' : List Addr) (st'' : Stk), Cel (celsOf c7) qs'' st'' → (∀ r ∈ qs'', r ≠ q) → Cel (celSet (celsOf c7) q [.int (i : Int), .int (u - mm)]) qs'' st'' := fun qs'' st'' h n => cel_more h fun r xs hr hm => set_other (n r hr) hm
          have far : ∀ r ∈ qs', r ≠ q := fun r hr z => ndq.1 (by rw [← z]; exact hr)
          have em : (f' ++ [((i : Int), (j : Int), mm)]).map encS = f'.map encS ++ [.tup [.int (i : Int), .int (j : Int), .int mm]] := by
            rw [List.map_append]
            rfl
          by_cases c : m' < u
          · rw [if_pos c] at hmm
            subst hmm
            refine br_ff (decide_eq_false (by omega)) ?_
            have ef : fill j ((i, u) :: st') mm = ([((i : Int), (j : Int), mm)], (i, u - mm) :: st') := by
              show (if mm ≤ 0 then _ else if mm < u then _ else _) = _
              rw [if_neg (by omega), if_pos c]
            rw [ef] at e1 e2
            have ps' : ∀ p ∈ ((i, u - mm) :: st' : Stk), 0 < p.2 := fun p hp => by
              rcases List.mem_cons.mp hp with rfl | hp
              · show 0 < u - mm
                omega
              · exact hd.ps p (List.mem_cons_of_mem _ hp)
            have t0 : 0 ≤ tot ((i, u - mm) :: st') := tot_nn _ ps'
            refine ⟨st'.length + 1, by rw [ek]; exact Nat.lt_succ_self _, f' ++ [((i : Int), (j : Int), mm)], (i, u - mm) :: st', q :: qs', 0, some (.d (.int mm)), some (.cels (celSet (celsOf c7) q [.int (i : Int), .int (u - mm)])), ⟨⟨ce3, back qs' st' ce2 far⟩, hd.nd, ps'⟩, by omega, t0, ?_, ?_, ?_, rfl, ?_⟩
            · rw [List.length_append]
              show f'.length + 1 + (st'.length + 1) + 0 ≤ 1001
              have few : f'.length + (st'.length + 1) + 1 ≤ 1001 := few
              omega
            · rw [fill_zero, List.append_nil]
              exact e1
            · rw [fill_zero]
              exact e2
            · unfold wlE
              rw [em, Int.sub_self]
              rfl
          · rw [if_neg c] at hmm
            subst hmm
            have ef : fill j ((i, mm) :: st') m' = (((i : Int), (j : Int), mm) :: (fill j st' (m' - mm)).1, (fill j st' (m' - mm)).2) := by
              show (if m' ≤ 0 then _ else if m' < mm then _ else _) = _
              rw [if_neg (by omega), if_neg c]
            rw [ef] at e1 e2
            rw [Ph.tot_cons] at mt
            have mt : m' ≤ mm + tot st' := mt
            refine br_tt (decide_eq_true (by omega)) ⟨.raw (.ref q), raw_lastq q qs', ?_⟩
            have few : f'.length + (st'.length + 1) + 1 ≤ 1001 := few
            refine ⟨st'.length + (if 0 < m' - mm then 1 else 0), by rw [ek]; show _ < st'.length + 1 + 1; split <;> omega, f' ++ [((i : Int), (j : Int), mm)], st', qs', m' - mm, some (.d (.int mm)), some (.cels (celSet (celsOf c7) q [.int (i : Int), .int (mm - mm)])), ⟨back qs' st' ce2 far, ndq.2, fun p hp => hd.ps p (List.mem_cons_of_mem _ hp)⟩, by omega, by omega, ?_, ?_, e2, rfl, ?_⟩
            · rw [List.length_append]
              show f'.length + 1 + st'.length + _ ≤ 1001
              split <;> omega
            · rw [List.append_assoc]
              exact e1
            · unfold wlE
              rw [em, ← raw_drop q qs']
              rfl
    · have e : m' = 0 := by omega
      subst e
      rw [fill_zero] at e1 e2
      have e2 : st' = _ := e2
      have := fin qs' j6 c7 (by rw [← e2]; exact hd)
      rw [← e1, List.append_nil] at this
      exact this
  · rw [if_neg m0, if_neg m0, if_neg m0, List.append_nil] at fin
    refine ⟨fun _ env => env = wlE a b j f qs m j6 c7, ⟨0, rfl⟩, ?_⟩
    rintro k env rfl
    exact br_if (fun (h : m > 0) => absurd h m0) fun _ => fin qs j6 c7 hd
end Pr

namespace Pr
open PySem PySem.Spec PyProof.Rows L2 LamX Pd
open Ph (Stp encS Stk fill tot Rn)
theorem at_Ti {a : List Int} {i : Nat} (h : i < a.length) : dIdx (Ti a) (.int (i : Int)) = some (.int (a.getD i 0)) :=
  Ph.idx_items rfl (by omega) (by
    rw [show ((i : Nat) : Int).toNat = i by omega, List.getElem?_map, List.getD_eq_getElem?_getD, List.getElem?_eq_getElem h]
    rfl)
theorem pre_ok {a b : List Int} (hl : a.length = b.length) (hb : Ph.belowI b a = true) (al : Ph.alk (a.zip b) = true) : ∀ k, k ≤ (Ph.ord a b).length → 0 ≤ Ph.dif (fun i => a.getD i 0) (fun i => b.getD i 0) ((Ph.ord a b).take k) := fun k hk => by
  unfold Ph.belowI Ph.cmpI at hb
  simp only [Bool.and_eq_true, decide_eq_true_eq] at hb
  rw [Ph.dif_maps, List.map_take, List.map_take, Ph.ord_a hl al, Ph.ord_b hl al]
  have := (Ph.lessI_take hl.symm).mp hb.2 k (by rw [Ph.ord_len] at hk; omega)
  omega
theorem pure_steps_between (ds : List D) (Q : D → Prop) (Ex : Xc → Prop) (h : F_steps_between ds Q Ex) : w_steps_between (dEnds Q Ex) (startE N_steps_between ds) := by
  obtain ⟨a, b, rfl, hl, ne, l64, hb, al, q⟩ := h
  refine ⟨Nat.le_of_ble_eq_true rfl, Nat.le_of_ble_eq_true rfl, ?_⟩
  refine ⟨a.length, fun j => if j = 0 then a else b, by show D.int _ = D.int _; rw [List.length_map], by omega, by simp, by decide, ⟨rfl, Nat.le_refl _, Nat.lt_of_le_of_lt l64 (by decide), rfl, by show a.length ≤ b.length; omega, by show b.length < _; exact Nat.lt_of_le_of_lt (hl ▸ l64) (by decide), trivial⟩, ?_⟩
  rw [Ph.leK_le3]
  show forW _ _ _ ((Ph.ord a b).map fun (i : Nat) => D.int (i : Int)) _
  have r0 : Rn a.length (fun i => a.getD i 0) (fun i => b.getD i 0) [] ([], []) (fun i => a.getD i 0) := ⟨rfl, ⟨List.nodup_nil, (fun p hp => nomatch hp), (fun p hp => nomatch hp), fun p hp => nomatch hp⟩, (fun k hk => nomatch hk), fun _ _ => rfl, (fun k hk => nomatch hk), rfl, rfl, Nat.le_refl _, fun _ z => absurd rfl z⟩
  refine forW_ind (fun rest env => ∃ (P R : List Nat) (s : List Stp × Stk) (g : Nat → Int) (qs : List Addr) (j2 j5 j6 c7 : Option Sl), rest = R.map (fun (i : Nat) => D.int (i : Int)) ∧ Ph.ord a b = P ++ R ∧ Rn a.length (fun i => a.getD i 0) (fun i => b.getD i 0) P s g ∧ R.foldl (Ph.one (fun i => a.getD i 0) (fun i => b.getD i 0)) s = Ph.run (fun i => a.getD i 0) (fun i => b.getD i 0) (Ph.ord a b) ∧ Wtg c7 qs s.2 ∧
    env = [some (.d (Ti a)), some (.d (Ti b)), j2, some (.own (s.1.map encS)), some (.own (rawL qs)), j5, j6, c7]) ?_ ?_ _ _ ⟨[], Ph.ord a b, ([], []), _, [], none, none, none, none, rfl, rfl, r0, rfl, ⟨trivial, List.nodup_nil, fun p hp => nomatch hp⟩, rfl⟩
  · rintro x rest env ⟨P, R, s, g, qs, j2, j5, j6, c7, er, eo, r, ef, hd, rfl⟩ ih
    cases R with
    | nil => cases er
    | cons i R =>
      cases er
      have hi : i < a.length := Ph.ord_mem.mp (by rw [eo]; exact List.mem_append_right _ List.mem_cons_self)
      have nd := Ph.ord_nd a b
      have pw := Ph.ord_falls hl al
      rw [eo] at nd pw
      have hP : i ∉ P := fun z => (List.nodup_append.mp nd).2.2 i z i List.mem_cons_self rfl
      have pre := pre_ok hl hb al (P.length + 1) (by rw [eo, List.length_append, List.length_cons]; omega)
      have et : (Ph.ord a b).take (P.length + 1) = P ++ [i] := by
        rw [eo, List.take_append, List.take_of_length_le (by omega), show P.length + 1 - P.length = 1 by omega]
        rfl
      rw [et] at pre
      obtain ⟨g1, r1⟩ := r.one hi hP (fun k hk => ((List.pairwise_append.mp pw).2.2 k hk i List.mem_cons_self).2) pre
      have few := r.few.1
      have cl : Ph.cnt (fun i => a.getD i 0) (fun i => b.getD i 0) P ≤ 64 := by
        have h1 : Ph.cnt (fun i => a.getD i 0) (fun i => b.getD i 0) P ≤ P.length := List.length_filter_le _ _
        have h2 := Ph.ord_len a b
        rw [eo, List.length_append] at h2
        omega
      have lq : (rawL qs).length = s.2.length := by
        unfold rawL
        rw [List.length_reverse, List.length_map, cel_len hd.ce]
      refine ⟨_, at_Ti (by omega), _, at_Ti hi, ?_⟩
      have nxt : ∀ (st' : List Stp × Stk) (qs' : List Addr) (j5 j6 c7 : Option Sl), Ph.one (fun i => a.getD i 0) (fun i => b.getD i 0) s i = st' → Wtg c7 qs' st'.2 → ∃ (P R' : List Nat) (s : List Stp × Stk) (g : Nat → Int) (qs : List Addr) (k2 k5 k6 c8 : Option Sl), R.map (fun (i : Nat) => D.int (i : Int)) = R'.map (fun (i : Nat) => D.int (i : Int)) ∧ Ph.ord a b = P ++ R' ∧ Rn a.length (fun i => a.getD i 0) (fun i => b.getD i 0) P s g ∧ R'.foldl (Ph.one (fun i => a.getD i 0) (fun i => b.getD i 0)) s = Ph.run (fun i => a.getD i 0) (fun i => b.getD i 0) (Ph.ord a b) ∧ Wtg c8 qs s.2 ∧
          [some (.d (Ti a)), some (.d (Ti b)), some (.d (.int (i : Int))), some (.own (st'.1.map encS)), some (.own (rawL qs')), j5, j6, c7] = [some (.d (Ti a)), some (.d (Ti b)), k2, some (.own (s.1.map encS)), some (.own (rawL qs)), k5, k6, c8] := fun st' qs' j5 j6 c7 e h => by
        subst e
        exact ⟨P ++ [i], R, _, g1, qs', _, j5, j6, c7, rfl, by rw [eo, List.append_assoc]; rfl, r1, ef, h, rfl⟩
      refine br_if (fun (c : b.getD i 0 - a.getD i 0 < 0) => ?_) (fun (c : ¬ b.getD i 0 - a.getD i 0 < 0) => ?_)
      · refine ⟨Nat.le_of_ble_eq_true rfl, fun p hp => ⟨by rw [lq]; omega, ?_⟩⟩
        have er : rawL qs ++ [D.raw (.ref p)] = rawL (p :: qs) := by
          unfold rawL
          rw [List.map_cons, List.reverse_cons]
        have hp : p ∉ (celsOf c7).map (·.1) := hp
        have e1 : Ph.one (fun i => a.getD i 0) (fun i => b.getD i 0) s i = (s.1, (i, -(b.getD i 0 - a.getD i 0)) :: s.2) := if_pos c
        have h2 : Wtg (some (.cels (celsOf c7 ++ [(p, [.int (i : Int), .int (-(b.getD i 0 - a.getD i 0))])]))) (p :: qs) ((i, -(b.getD i 0 - a.getD i 0)) :: s.2) := by
          refine ⟨⟨List.mem_append_right _ List.mem_cons_self, cel_more hd.ce fun q xs _ hm => List.mem_append_left _ hm⟩, List.nodup_cons.mpr ⟨fun z => hp (cel_mem hd.ce p z), hd.nd⟩, fun r hr => ?_⟩
          rcases List.mem_cons.mp hr with rfl | hr
          · show 0 < -(b.getD i 0 - a.getD i 0)
            omega
          · exact hd.ps r hr
        have t0 := tot_nn _ h2.ps
        show sWhile _ wlBody _ [some (.d (Ti a)), some (.d (Ti b)), some (.d (.int (i : Int))), some (.own (s.1.map encS)), some (.own (rawL qs ++ [D.raw (.ref p)])), some (.d (.int (b.getD i 0 - a.getD i 0))), j6, some (.cels (celsOf c7 ++ [(p, [.int (i : Int), .int (-(b.getD i 0 - a.getD i 0))])]))]
        rw [er]
        refine while_ok (by omega) _ s.1 _ (p :: qs) (b.getD i 0 - a.getD i 0) j6 _ h2 (by omega) (by rw [List.length_cons]; omega) fun qs' k6 c8 h3 => ?_
        rw [if_neg (by omega)] at h3
        rw [if_neg (by omega), if_neg (by omega), List.append_nil]
        exact ih _ (nxt (s.1, (i, -(b.getD i 0 - a.getD i 0)) :: s.2) qs' _ k6 c8 e1 h3)
      · have e1 : Ph.one (fun i => a.getD i 0) (fun i => b.getD i 0) s i = (s.1 ++ (fill i s.2 (b.getD i 0 - a.getD i 0)).1, (fill i s.2 (b.getD i 0 - a.getD i 0)).2) := if_neg c
        rw [Ph.dif_snoc] at pre
        refine while_ok (by omega) _ s.1 s.2 qs (b.getD i 0 - a.getD i 0) j6 c7 hd (by rw [r.tt]; omega) (by omega) fun qs' k6 c8 h3 => ?_
        have e2 : (if 0 < b.getD i 0 - a.getD i 0 then (fill i s.2 (b.getD i 0 - a.getD i 0)).2 else s.2) = (fill i s.2 (b.getD i 0 - a.getD i 0)).2 := by
          by_cases z : 0 < b.getD i 0 - a.getD i 0
          · rw [if_pos z]
          · rw [if_neg z, show b.getD i 0 - a.getD i 0 = 0 by omega, fill_zero]
        have e3 : (if 0 < b.getD i 0 - a.getD i 0 then (fill i s.2 (b.getD i 0 - a.getD i 0)).1 else []) = (fill i s.2 (b.getD i 0 - a.getD i 0)).1 := by
          by_cases z : 0 < b.getD i 0 - a.getD i 0
          · rw [if_pos z]
          · rw [if_neg z, show b.getD i 0 - a.getD i 0 = 0 by omega, fill_zero]
        rw [e2] at h3
        rw [e3]
        exact ih _ (nxt _ qs' _ k6 c8 e1 h3)
  · rintro env ⟨P, R, s, g, qs, j2, j5, j6, c7, er, eo, r, ef, hd, rfl⟩
    cases R with
    | cons i R => cases er
    | nil =>
      have ef : s = Ph.run (fun i => a.getD i 0) (fun i => b.getD i 0) (Ph.ord a b) := ef
      show Q (.lst (s.1.map encS))
      rw [ef]
      exact q
theorem len_steps_between (ds : List D) (Q : D → Prop) (Ex : Xc → Prop) (h : F_steps_between ds Q Ex) : ds.length = 2 := by
  obtain ⟨x, y, rfl, _⟩ := h
  rfl
end Pr

namespace Pr
open PySem PySem.Spec PyProof.Rows L2 LamX Pd
open Ph (NowR KnR Rw mvs mv1 Look)
def kv (kl : List (List Int)) : List (List Key × D) := kl.map fun r => (iK r, .bl true)
theorem kv_key (kl : List (List Int)) (y : List Int) : ((kv kl).any fun q => decide (q.1 = iK y)) = decide (y ∈ kl) := by
  unfold kv
  rw [List.any_map, Bool.eq_iff_iff, List.any_eq_true, decide_eq_true_eq]
  constructor
  · rintro ⟨r, hr, e⟩
    rw [← Zd.iK_one (of_decide_eq_true e)]
    exact hr
  · exact fun h => ⟨y, h, decide_eq_true rfl⟩
theorem kv_look (kl : List (List Int)) (y : List Int) : (lookG (kv kl) (iK y)).isSome = decide (y ∈ kl) := by
  rw [← kv_key]
  unfold lookG
  rw [Option.isSome_map, Bool.eq_iff_iff, List.find?_isSome, List.any_eq_true]
theorem kv_put : ∀ (ns kl : List (List Int)), ns.Nodup → (∀ y ∈ ns, y ∉ kl) → putAllG (kv kl) (kv ns) = kv (kl ++ ns)
  | [], kl, _, _ => by rw [List.append_nil]; rfl
  | y :: ns, kl, nd, h => by
    obtain ⟨n1, n2⟩ := List.nodup_cons.mp nd
    show putAllG (putG (kv kl) (iK y) (.bl true)) (kv ns) = _
    have e : putG (kv kl) (iK y) (.bl true) = kv (kl ++ [y]) := by
      unfold putG
      rw [kv_key, if_neg (by simp [h y List.mem_cons_self])]
      unfold kv
      rw [List.map_append]
      rfl
    rw [e, kv_put ns (kl ++ [y]) n2 (fun z hz w => by
      rcases List.mem_append.mp w with w | w
      · exact h z (List.mem_cons_of_mem _ hz) w
      · rw [List.mem_singleton.mp w] at hz
        exact n1 hz), List.append_assoc]
    rfl
def stepL (x : List Int) (s : Nat) : List (List Int) := ((List.range x.length).filter fun g => decide (x.getD g 0 + 2 ≤ x.getD s 0)).map fun g => dn (mv1 x s g)
def stepsL (x : List Int) : List (List Int) := (List.range x.length).flatMap (stepL x)
theorem mem_steps {x y : List Int} : y ∈ stepsL x ↔ y ∈ mvs x := by
  rw [Ph.mem_mvs]
  unfold stepsL stepL
  rw [List.mem_flatMap]
  constructor
  · rintro ⟨s, hs, h⟩
    obtain ⟨g, hg, rfl⟩ := List.mem_map.mp h
    obtain ⟨g1, g2⟩ := List.mem_filter.mp hg
    exact ⟨s, g, List.mem_range.mp hs, List.mem_range.mp g1, of_decide_eq_true g2, rfl⟩
  · rintro ⟨s, g, hs, hg, h, rfl⟩
    exact ⟨s, List.mem_range.mpr hs, List.mem_map.mpr ⟨g, List.mem_filter.mpr ⟨List.mem_range.mpr hg, decide_eq_true h⟩, rfl⟩⟩
theorem step_len (x : List Int) (s : Nat) : (stepL x s).length ≤ x.length := by
  unfold stepL
  rw [List.length_map]
  have := List.length_filter_le (fun g => decide (x.getD g 0 + 2 ≤ x.getD s 0)) (List.range x.length)
  rwa [List.length_range] at this
abbrev inW : WS := (sFor (wRng1 (w1 dLen (wVar 6))) (gNm 7) (sSeq (sSet 8 (wLst (wComp (wRng1 (w1 dLen (wVar 6))) (gNm 9) (wTest (wBin dGe (xBin fIdx (wVar 6) (wVar 7)) (xBin fAdd (xBin fIdx (wVar 6) (wVar 9)) (W.ret (.int 2))))) (wVar 9) [9]))) (sDrop (wExtend 5 (wLst (wComp (wItems (wVar 8)) (gNm 9) (W.ret true) (wCall F_L_down (wCons (wCall F_L_moved (wCons (wVar 6) (wCons (wVar 7) (wCons (wVar 9) (wCons (W.ret (.int 1)) wNil))))) wNil)) [9]))))))
abbrev fE (a b : List Int) (s2 s3 s4 : Option Sl) (l : List (List Int)) (j6 j7 j8 j9 : Option Sl) : PEnv := [some (.d (Ti a)), some (.d (Ti b)), s2, s3, s4, some (.own (l.map Ti)), j6, j7, j8, j9]
theorem in_ok {a b x : List Int} {s2 s3 s4 : Option Sl} (hx : x.length ≤ 4) (pe : PEnds) : ∀ (l : List (List Int)) (j7 j8 j9 : Option Sl), l.length ≤ 10000 →
    (∀ j7 j8 j9, pe.nx (fE a b s2 s3 s4 (l ++ stepsL x) (some (.d (Ti x))) j7 j8 j9)) → inW pe (fE a b s2 s3 s4 l (some (.d (Ti x))) j7 j8 j9) := by
  intro l j7 j8 j9 ll fin
  have lx : (x.map D.int).length = x.length := List.length_map _
  refine ⟨by rw [lx]; omega, by rw [lx]; omega, ?_⟩
  show forW _ _ _ (Pd.upTo 0 ((x.map D.int).length : Int)) _
  rw [lx, Ph.upTo0, Int.toNat_natCast]
  refine forW_ind (fun rest env => ∃ (P R : List Nat) (j7 j8 j9 : Option Sl), rest = R.map (fun (i : Nat) => D.int (i : Int)) ∧ List.range x.length = P ++ R ∧ env = fE a b s2 s3 s4 (l ++ P.flatMap (stepL x)) (some (.d (Ti x))) j7 j8 j9) ?_ ?_ _ _ ⟨[], List.range x.length, j7, j8, j9, rfl, rfl, by unfold fE; rw [List.flatMap_nil, List.append_nil]⟩
  · rintro y rest env ⟨P, R, j7, j8, j9, er, eo, rfl⟩ ih
    cases R with
    | nil => cases er
    | cons s R =>
      cases er
      have hs : s < x.length := List.mem_range.mp (by rw [eo]; exact List.mem_append_right _ List.mem_cons_self)
      refine ⟨by rw [lx]; omega, by rw [lx]; omega, ?_⟩
      show compW _ _ _ _ _ (Pd.upTo 0 ((x.map D.int).length : Int)) _ _
      rw [lx, Ph.upTo0, Int.toNat_natCast]
      refine comp_enc (v := 9) (fun z => fE a b s2 s3 s4 (l ++ P.flatMap (stepL x)) (some (.d (Ti x))) (some (.d (.int (s : Int)))) j8 z) (fun (i : Nat) => D.int (i : Int)) (fun (i : Nat) => D.int (i : Int)) (fun g => decide (x.getD g 0 + 2 ≤ x.getD s 0)) (List.range x.length) j9 [] (fun _ _ => rfl) (fun g hg K ex k => ?_) (fun g hg _ K ex k => k) fun z => ?_
      · have hg := List.mem_range.mp hg
        refine ⟨_, at_Ti hs, _, at_Ti hg, ?_⟩
        exact k
      · rw [List.nil_append]
        have la : (l ++ P.flatMap (stepL x)).length ≤ 10016 := by
          have : P.length ≤ x.length := by
            have := congrArg List.length eo
            rw [List.length_range, List.length_append] at this
            omega
          have h2 : ∀ P : List Nat, (P.flatMap (stepL x)).length ≤ x.length * P.length := fun P => by
            induction P with
            | nil => exact Nat.le_refl _
            | cons p P ih =>
              rw [List.flatMap_cons, List.length_append, List.length_cons, Nat.mul_succ]
              have := step_len x p
              omega
          have h3 := h2 P
          have h4 : x.length * P.length ≤ 4 * 4 := Nat.mul_le_mul hx (by omega)
          rw [List.length_append]
          omega
        refine comp_all (v := 9) (fun q => [some (.d (Ti a)), some (.d (Ti b)), s2, s3, s4, some (.own ((l ++ P.flatMap (stepL x)).map Ti)), some (.d (Ti x)), some (.d (.int (s : Int))), some (.d (.lst (((List.range x.length).filter fun g => decide (x.getD g 0 + 2 ≤ x.getD s 0)).map fun (i : Nat) => D.int (i : Int)))), q]) (fun (i : Nat) => D.int (i : Int)) (fun g => Ti (dn (mv1 x s g))) ((List.range x.length).filter fun g => decide (x.getD g 0 + 2 ≤ x.getD s 0)) _ [] (fun _ _ => rfl) (fun g hg K ex k => ?_) fun q => ?_
        · have hg := List.mem_range.mp (List.mem_filter.mp hg).1
          refine ⟨x, (s : Int), (g : Int), 1, x.getD s 0, rfl, by omega, by omega, by omega, by omega, ?_, _, _, rfl, rfl, ?_, ?_⟩
          · rw [show ((s : Nat) : Int).toNat = s by omega, List.getD_eq_getElem?_getD, List.getElem?_eq_getElem hs]
            rfl
          · rw [List.length_set, List.length_set]
            omega
          · have e : (x.set (s : Int).toNat (x.getD s 0 - 1)).set (g : Int).toNat ((x.set (s : Int).toNat (x.getD s 0 - 1))[(g : Int).toNat]?.getD 0 + 1) = mv1 x s g := by
              unfold mv1
              rw [show ((s : Nat) : Int).toNat = s by omega, show ((g : Nat) : Int).toNat = g by omega, List.getD_eq_getElem?_getD (l := x.set s (x.getD s 0 - 1))]
            rw [e]
            exact k
        · rw [List.nil_append]
          have e : (l ++ P.flatMap (stepL x)).map Ti ++ ((List.range x.length).filter fun g => decide (x.getD g 0 + 2 ≤ x.getD s 0)).map (fun g => Ti (dn (mv1 x s g))) = (l ++ (P ++ [s]).flatMap (stepL x)).map Ti := by
            rw [List.flatMap_append, List.flatMap_singleton, ← List.append_assoc, List.map_append (l₁ := l ++ P.flatMap (stepL x))]
            congr 1
            unfold stepL
            rw [List.map_map]
            rfl
          refine ⟨?_, ?_⟩
          · rw [List.length_map, List.length_map]
            have := List.length_filter_le (fun g => decide (x.getD g 0 + 2 ≤ x.getD s 0)) (List.range x.length)
            rw [List.length_range] at this
            omega
          · refine ih _ ⟨P ++ [s], R, some (.d (.int (s : Int))), some (.d (.lst (((List.range x.length).filter fun g => decide (x.getD g 0 + 2 ≤ x.getD s 0)).map fun (i : Nat) => D.int (i : Int)))), keepD (keepD j9), rfl, by rw [eo, List.append_assoc]; rfl, ?_⟩
            unfold fE
            rw [← e]
            rfl
  · rintro env ⟨P, R, j7, j8, j9, er, eo, rfl⟩
    cases R with
    | cons s R => cases er
    | nil =>
      rw [List.append_nil] at eo
      rw [← eo]
      exact fin j7 j8 j9
end Pr

namespace Pr
open PySem PySem.Spec PyProof.Rows L2 LamX Pd
open Ph (NowR KnR Rw mvs mv1 Look)
theorem pl_Tis (n : Nat) (rs : List (List Int)) : (rs.map Ti).all (plain (n + 2)) = true := by
  rw [List.all_map, List.all_eq_true]
  exact fun r _ => Ph.pl_Ti n r
theorem any_Ti (rs : List (List Int)) (y : List Int) : ((rs.map Ti).any fun z => eqb z (Ti y)) = decide (y ∈ rs) := by
  rw [List.any_map, Bool.eq_iff_iff, List.any_eq_true, decide_eq_true_eq]
  constructor
  · rintro ⟨r, hr, e⟩
    have e : eqb (Ti r) (Ti y) = true := e
    rw [Ph.eqb_Ti] at e
    rw [← of_decide_eq_true e]
    exact hr
  · exact fun h => ⟨y, h, by show eqb (Ti y) (Ti y) = true; rw [Ph.eqb_Ti, decide_eq_true rfl]⟩
theorem out_ok {a b : List Int} {s2 s3 s4 : Option Sl} (pe : PEnds) : ∀ (ns l : List (List Int)) (j6 j7 j8 j9 : Option Sl), (∀ x ∈ ns, x.length ≤ 4) → l.length + 16 * ns.length ≤ 9000 →
    (∀ j6 j7 j8 j9, pe.nx (fE a b s2 s3 s4 (l ++ ns.flatMap stepsL) j6 j7 j8 j9)) → forW (gNm 6) (fun nx env => inW { pe with nx := nx, bk := pe.nx, ct := nx } env) pe.nx (ns.map Ti) (fE a b s2 s3 s4 l j6 j7 j8 j9)
  | [], l, j6, j7, j8, j9, _, _, fin => by
    rw [List.flatMap_nil, List.append_nil] at fin
    exact fin j6 j7 j8 j9
  | x :: ns, l, j6, j7, j8, j9, hx, ll, fin => by
    rw [List.length_cons] at ll
    have sl : (stepsL x).length ≤ 16 := by
      have hx := hx x List.mem_cons_self
      have h2 : ∀ P : List Nat, (P.flatMap (stepL x)).length ≤ x.length * P.length := fun P => by
        induction P with
        | nil => exact Nat.le_refl _
        | cons p P ih =>
          rw [List.flatMap_cons, List.length_append, List.length_cons, Nat.mul_succ]
          have := step_len x p
          omega
      have h3 := h2 (List.range x.length)
      rw [List.length_range] at h3
      have h4 : x.length * x.length ≤ 4 * 4 := Nat.mul_le_mul hx hx
      unfold stepsL
      omega
    refine in_ok (s2 := s2) (s3 := s3) (s4 := s4) (hx x List.mem_cons_self) _ l j7 j8 j9 (by omega) fun j7 j8 j9 => ?_
    refine out_ok pe ns (l ++ stepsL x) _ j7 j8 j9 (fun y hy => hx y (List.mem_cons_of_mem _ hy)) (by rw [List.length_append]; omega) fun j6 j7 j8 j9 => ?_
    rw [List.append_assoc, ← List.flatMap_cons]
    exact fin j6 j7 j8 j9
theorem flat_mem {n t k : Nat} {r : List Int} {ns : List (List Int)} (h : ∀ y, y ∈ ns ↔ NowR n t r k y) (y : List Int) : y ∈ ns.flatMap stepsL ↔ ∃ x, NowR n t r k x ∧ y ∈ mvs x := by
  rw [List.mem_flatMap]
  constructor
  · rintro ⟨x, hx, hy⟩
    exact ⟨x, (h x).mp hx, mem_steps.mp hy⟩
  · rintro ⟨x, hx, hy⟩
    exact ⟨x, (h x).mpr hx, mem_steps.mpr hy⟩
theorem sub_len {n t : Nat} (L : Look n t) {ns : List (List Int)} (nd : ns.Nodup) (h : ∀ y ∈ ns, y ∈ Rw n t) : ns.length < 63 := Nat.lt_of_le_of_lt (Zs.few_of nd h) L.few
theorem nd_map_sub {α β : Type} {f : α → β} {l m : List α} (h : (l.map f).Nodup) (nd : m.Nodup) (sub : ∀ x ∈ m, x ∈ l) : (m.map f).Nodup := by
  have inj : ∀ x ∈ l, ∀ y ∈ l, f x = f y → x = y := by
    clear nd sub
    induction l with
    | nil => exact fun x hx => nomatch hx
    | cons a l ih =>
      rw [List.map_cons, List.nodup_cons] at h
      intro x hx y hy e
      rcases List.mem_cons.mp hx with e1 | hx1
      · rcases List.mem_cons.mp hy with e2 | hy1
        · rw [e1, e2]
        · exact (h.1 (List.mem_map.mpr ⟨y, hy1, by rw [← e, e1]⟩)).elim
      · rcases List.mem_cons.mp hy with e2 | hy1
        · exact (h.1 (List.mem_map.mpr ⟨x, hx1, by rw [e, e2]⟩)).elim
        · exact ih h.2 x hx1 y hy1 e
  induction m with
  | nil => exact List.nodup_nil
  | cons a m ih =>
    obtain ⟨n1, n2⟩ := List.nodup_cons.mp nd
    rw [List.map_cons, List.nodup_cons]
    refine ⟨fun z => ?_, ih n2 fun x hx => sub x (List.mem_cons_of_mem _ hx)⟩
    obtain ⟨y, hy, e⟩ := List.mem_map.mp z
    rw [inj y (sub y (List.mem_cons_of_mem _ hy)) a (sub a List.mem_cons_self) e] at hy
    exact n1 hy
theorem pure_L_fewest (ds : List D) (Q : D → Prop) (Ex : Xc → Prop) (h : F_L_fewest ds Q Ex) : w_L_fewest (dEnds Q Ex) (startE N_L_fewest ds) := by
  obtain ⟨a, b, t, rfl, n1, n4, lb, ha, hb, sa, sb, t8, q⟩ := h
  have L := Ph.look n1 n4 t8
  have rr := Ph.dn_rw ha sa
  have rb := Ph.dn_rw hb sb
  rw [lb] at rb
  have eb := Ph.below_und (a := a) (b := b) lb (by rw [sa, sb])
  rw [eb] at q
  have z0 := fun y => L.zero rr (Ph.und_self a) y
  refine ⟨Ti a, a, rfl, rfl, by omega, Nat.le_of_ble_eq_true rfl, Ti a, a, rfl, rfl, by omega, dn a, rfl, ?_⟩
  refine ⟨by decide, by decide, ?_⟩
  show forW _ _ _ (Pd.upTo ((0 : Nat) : Int) 12) _
  refine forW_ind (fun rest env => ∃ (k : Nat) (ns kl : List (List Int)) (j2 j5 j6 j7 j8 j9 : Option Sl), k ≤ 12 ∧ rest = Pd.upTo (k : Int) 12 ∧ ns.Nodup ∧ kl.Nodup ∧ (∀ y, y ∈ ns ↔ NowR a.length t (dn a) k y) ∧ (∀ y, y ∈ kl ↔ KnR a.length t (dn a) k y) ∧ (∀ j, j < k → ¬ NowR a.length t (dn a) j (dn b)) ∧
    env = [some (.d (Ti a)), some (.d (Ti b)), j2, some (.d (.lst (ns.map Ti))), some (.dct none (.t (kv kl))), j5, j6, j7, j8, j9]) ?_ ?_ _ _ ⟨0, [dn a], [dn a], none, none, none, none, none, none, by omega, rfl, by simp, by simp, fun y => by rw [List.mem_singleton]; exact (z0 y).1.symm, fun y => by rw [List.mem_singleton]; exact (z0 y).2.symm, fun j hj => by omega, rfl⟩
  · rintro x rest env ⟨k, ns, kl, j2, j5, j6, j7, j8, j9, k12, er, nd, ndk, hn, hk, no, rfl⟩ ih
    have lt : k < 12 := by
      apply Decidable.byContradiction
      intro z
      rw [upTo_nil (by omega)] at er
      cases er
    rw [upTo_cons (by omega)] at er
    cases er
    have ls : ns.length < 63 := sub_len L nd fun y hy => ((hn y).mp hy).1
    have lk : kl.length < 63 := sub_len L ndk fun y hy => ((hk y).mp hy).1
    refine ⟨Ti b, b, rfl, rfl, by omega, ?_, ?_⟩
    · rw [Ph.pl_Ti 57, pl_Tis 57]
      rfl
    rw [any_Ti]
    by_cases c : dn b ∈ ns
    · refine br_tt (decide_eq_true c) ?_
      obtain ⟨_, u, g⟩ := (hn _).mp c
      rw [u, if_pos rfl] at q
      have g : Ph.gap a b = 2 * (k : Int) := g
      have e : Ph.half a b = (k : Int) := by
        unfold Ph.half
        rw [g]
        omega
      rw [e] at q
      exact q
    · refine br_ff (decide_eq_false c) ⟨Nat.le_of_ble_eq_true rfl, ?_⟩
      refine out_ok (s2 := some (.d (.int (k : Int)))) (s3 := some (.d (.lst (ns.map Ti)))) (s4 := some (.dct none (.t (kv kl)))) _ ns [] j6 j7 j8 j9 (fun y hy => by rw [(Ph.mem_rws.mp ((hn y).mp hy).1).1]; exact n4) (by rw [List.length_nil]; omega) fun j6 j7 j8 j9 => ?_
      rw [List.nil_append]
      have st := fun y => L.step rr k y
      have fm := flat_mem hn
      refine ⟨ns.flatMap stepsL, a.length, (t : Int) + 1, Rw a.length t, rfl, n1, L.few, fun r hr => ?_, fun ms ndm hm => ?_⟩
      · obtain ⟨x, hx, hy⟩ := (fm r).mp hr
        obtain ⟨m1, _⟩ := L.mv _ rr x hx.1 hx.2.1 r hy
        obtain ⟨l1, l2, l3, l4⟩ := Ph.mem_rws.mp m1
        exact ⟨m1, l1, fun m hm => by have := l4 m hm; omega⟩
      · refine comp_enc (v := 6) (fun z => [some (.d (Ti a)), some (.d (Ti b)), some (.d (.int (k : Int))), some (.d (.lst (ns.map Ti))), some (.d (.dit (kv kl))), some (.d (.lst ((ns.flatMap stepsL).map Ti))), z, hid j7, hid j8, hid j9]) Ti Ti (fun r => !decide (r ∈ kl)) ms (hid j6) [] (fun _ _ => rfl) (fun r hr K ex z => ?_) (fun r hr _ K ex z => z) fun z => ?_
        · refine ⟨kv kl, r, rfl, rfl, ?_⟩
          rw [kv_look]
          exact z
        · rw [List.nil_append]
          have hn2 : ∀ y, y ∈ ms.filter (fun r => !decide (r ∈ kl)) ↔ NowR a.length t (dn a) (k + 1) y := fun y => by
            rw [List.mem_filter, hm, fm, ← st y, ← hk]
            simp
          have nd2 : (ms.filter fun r => !decide (r ∈ kl)).Nodup := ndm.filter _
          have di : ∀ y ∈ ms.filter (fun r => !decide (r ∈ kl)), y ∉ kl := fun y hy => by
            have := (List.mem_filter.mp hy).2
            simpa using this
          generalize ms.filter (fun r => !decide (r ∈ kl)) = N at hn2 nd2 di ⊢
          have l2 : N.length < 63 := sub_len L nd2 fun y hy => ((hn2 y).mp hy).1
          refine ⟨fun d hd => ?_, ?_⟩
          · obtain ⟨r, _, rfl⟩ := List.mem_map.mp hd
            exact ⟨r, rfl⟩
          · refine comp_all (v := 6) (fun z => [some (.d (Ti a)), some (.d (Ti b)), some (.d (.int (k : Int))), some (.d (.lst (N.map Ti))), some (.dct none (.t (kv kl))), some (.d (.lst ((ns.flatMap stepsL).map Ti))), z, j7, j8, j9]) Ti (fun r => .tup [Ti r, .bl true]) N j6 [] (fun _ _ => rfl) (fun r _ K ex z => ⟨Nat.le_of_ble_eq_true rfl, z⟩) fun z => ?_
            rw [List.nil_append]
            have eN : (N.map fun r => D.tup [Ti r, .bl true]) = (N.map fun r => (r, D.bl true)).map fun kv => D.tup [keyT (iK kv.1), kv.2] := by
              rw [List.map_map]
              refine List.map_congr_left fun r _ => ?_
              show D.tup [.tup (r.map D.int), .bl true] = D.tup [.tup ((r.map Sum.inl).map kD), .bl true]
              rw [List.map_map]
              rfl
            have eP : putAllG [] ((N.map fun r => (r, D.bl true)).map fun kv => (iK kv.1, kv.2)) = kv N := by
              have := kv_put N [] nd2 (fun y _ => List.not_mem_nil)
              rw [List.nil_append] at this
              rw [List.map_map]
              exact this
            refine ⟨N.map fun r => (r, D.bl true), by rw [eN], ?_⟩
            rw [eP]
            refine ⟨kv N, N, rfl, by unfold kv; rw [List.map_map]; rfl, ?_, by unfold kv; rw [List.length_map, List.length_map]; omega, ?_⟩
            · exact (nd_map_sub L.hs nd2 fun y hy => ((hn2 y).mp hy).1)
            · refine ih _ ⟨k + 1, N, kl ++ N, some (.d (.int (k : Int))), some (.d (.lst ((ns.flatMap stepsL).map Ti))), keepD j6, j7, j8, j9, by omega, by rw [show (((k + 1 : Nat) : Int)) = (k : Int) + 1 by omega], nd2, List.nodup_append.mpr ⟨ndk, nd2, fun y hy z hz e => di z hz (e ▸ hy)⟩, hn2, fun y => ?_, fun j hj => ?_, ?_⟩
              · rw [List.mem_append, hk, hn2]
                exact (L.known rr k y).symm
              · by_cases e : j = k
                · subst e
                  exact fun z => c ((hn _).mpr z)
                · exact no j (by omega)
              · rw [← kv_put N kl nd2 di]
                rfl
  · rintro env ⟨k, ns, kl, j2, j5, j6, j7, j8, j9, k12, er, nd, ndk, hn, hk, no, rfl⟩
    have ge : 12 ≤ k := by
      apply Decidable.byContradiction
      intro z
      rw [upTo_cons (by omega)] at er
      cases er
    have u : Ph.undB (dn b) (dn a) = false := by
      cases e : Ph.undB (dn b) (dn a) with
      | false => rfl
      | true =>
        have ev := L.ev _ rr _ rb e
        exact absurd ⟨rb, e, by omega⟩ (no (Ph.gapB (dn a) (dn b) / 2).toNat (by omega))
    rw [u] at q
    exact q
theorem len_L_fewest (ds : List D) (Q : D → Prop) (Ex : Xc → Prop) (h : F_L_fewest ds Q Ex) : ds.length = 2 := by
  obtain ⟨x, y, t, rfl, _⟩ := h
  rfl
end Pr

namespace Pr
open PySem PySem.Spec PyProof.Rows L2 LamX Pd
theorem sums_out {Q : D → Prop} (q : Q (.lst [.str "sums"])) : Ph.bad.cls ∈ cls_L_outcome ∧ outH hs_L_outcome Ph.bad Q := ⟨by decide, .inl ⟨rfl, q⟩⟩
theorem op_out {Q : D → Prop} (q : Q (.lst [.str "operation"])) : Ph.badO.cls ∈ cls_L_outcome ∧ outH hs_L_outcome Ph.badO Q := ⟨by decide, .inr ⟨show ("InvalidSums" : Str) ≠ _ by decide, .inl ⟨rfl, q⟩⟩⟩
theorem sho_op : ShoA (.lst [.str "operation"]) := ⟨rfl, by decide +kernel, by decide +kernel⟩
theorem kdd_sts {f : List Ph.Stp} (h : f.length ≤ 1000) : Ph.kdd (.tup (f.map Ph.encS)) := ⟨rfl, fun xs e => by
  cases e
  refine ⟨by rw [List.length_map]; exact h, fun y hy => ?_⟩
  obtain ⟨q, _, rfl⟩ := List.mem_map.mp hy
  refine ⟨rfl, fun zs e z hz => ?_⟩
  cases e
  rcases (by simpa using hz : z = .int q.1 ∨ z = .int q.2.1 ∨ z = .int q.2.2) with rfl | rfl | rfl <;> rfl⟩
theorem at_row {a : List Int} (ra : Ph.rowI a) {R : List Int → Prop} {B : Prop} (r : R a) : kds (Ti a) ∧ (isRow (Ti a) = false → B) ∧ ∀ a', Ti a = Ti a' → Ph.rowI a' → R a' :=
  ⟨kds_Ti a, (fun z => by rw [Ph.isRow_Ti ra] at z; cases z), fun a' e _ => by rw [← Ph.Ti_inj e]; exact r⟩
theorem pl2 (a b : List Int) : (plain 60 (Ti a) && plain 60 (Ti b)) = true := by
  rw [Ph.pl_Ti 58, Ph.pl_Ti 58]
  rfl
theorem eqS {x : Str} {env : PEnv} {Q : D → PEnv → Prop} {ex : Xc → Prop} (q : Q (.bl true) env) : W.opt (dEqS (.str x) (.str x)) env Q ex := by
  show Q (.bl (decide (x = x))) env
  rw [decide_eq_true rfl]
  exact q
theorem half_bd {a b : List Int} (hl : a.length ≤ 64) (ha : ∀ n ∈ a, 0 ≤ n ∧ n ≤ maxN) (hb : ∀ n ∈ b, 0 ≤ n ∧ n ≤ maxN) : 0 ≤ Ph.half a b ∧ Ph.half a b ≤ 32 * maxN := by
  have key : ∀ l : List (Int × Int), (∀ p ∈ l, (0 ≤ p.1 ∧ p.1 ≤ maxN) ∧ 0 ≤ p.2 ∧ p.2 ≤ maxN) → 0 ≤ (l.map fun p => Ph.absI (p.1 - p.2)).sum ∧ (l.map fun p => Ph.absI (p.1 - p.2)).sum ≤ l.length * maxN := fun l => by
    induction l with
    | nil => exact fun _ => ⟨Int.le_refl _, by simp⟩
    | cons p l ih =>
      intro h
      obtain ⟨h1, h2⟩ := h p List.mem_cons_self
      obtain ⟨i1, i2⟩ := ih fun q hq => h q (List.mem_cons_of_mem _ hq)
      rw [List.map_cons, List.sum_cons, List.length_cons]
      have e : ((l.length + 1 : Nat) : Int) * maxN = (l.length : Int) * maxN + maxN := by
        rw [Int.natCast_add, Int.add_mul]
        show _ + 1 * maxN = _
        rw [Int.one_mul]
      rw [e]
      have z : 0 ≤ Ph.absI (p.1 - p.2) ∧ Ph.absI (p.1 - p.2) ≤ maxN := by
        unfold Ph.absI
        split <;> omega
      omega
  have k := key ((dn a).zip (dn b)) fun p hp => ⟨ha _ ((dn_perm a).mem_iff.mp (List.of_mem_zip hp).1), hb _ ((dn_perm b).mem_iff.mp (List.of_mem_zip hp).2)⟩
  have len : ((dn a).zip (dn b)).length ≤ 64 := by
    rw [List.length_zip, dn_len]
    omega
  have m0 : (0 : Int) ≤ maxN := by decide
  have g : Ph.gap a b ≤ 64 * maxN := Int.le_trans k.2 (Int.mul_le_mul_of_nonneg_right (by omega) m0)
  have g0 : 0 ≤ Ph.gap a b := k.1
  unfold Ph.half
  have e : (64 : Int) * maxN = 2 * (32 * maxN) := by decide
  omega
theorem sho_halves {h : Int} (h0 : 0 ≤ h) (h1 : h ≤ 32 * maxN) : ShoA (.lst [.int h, .int h]) := by
  have b : h.natAbs < 10 ^ 120 := by
    have h2 : (32 * maxN : Int) < 10 ^ 120 := by decide
    have h3 : ((10 ^ 120 : Nat) : Int) = 10 ^ 120 := by decide
    omega
  have sm : Ph.smallI [h, h] := ⟨Nat.le_of_ble_eq_true rfl, fun x hx => by
    rcases (by simpa using hx : x = h) with rfl
    exact b⟩
  exact ⟨rfl, Ph.sho_Li 28 sm, Nat.le_of_ble_eq_true rfl⟩
theorem sho_half {h : Int} (h0 : 0 ≤ h) (h1 : h ≤ 32 * maxN) : ShoA (.int h) := by
  have b : h.natAbs < 10 ^ 120 := by
    have h2 : (32 * maxN : Int) < 10 ^ 120 := by decide
    have h3 : ((10 ^ 120 : Nat) : Int) = 10 ^ 120 := by decide
    omega
  exact ⟨rfl, Ph.sho_int 29 b, Nat.le_of_ble_eq_true rfl⟩
theorem un_eq (f : List Ph.Stp) : (f.map fun q => q.2.2).sum = Ph.un f := rfl
theorem pure_L_road_right (ds : List D) (Q : D → Prop) (Ex : Xc → Prop) (h : F_L_road_right ds Q Ex) : w_L_road_right (dEnds Q Ex) (startE N_L_road_right ds) := by
  obtain ⟨a, b, rfl, na, nb, hl, hs, al, q⟩ := h
  have ra := Ph.nrow_row na
  have rb := Ph.nrow_row nb
  have la := na.2.1
  have lb := nb.2.1
  have lm : (a.map D.int).length = a.length := List.length_map _
  cases e : Ph.belowI b a with
  | false =>
    refine ⟨Ti a, Ti b, rfl, Ph.two_ok ra rb ⟨(fun z => by rw [e] at z; cases z.1), fun _ => op_out ?_⟩⟩
    refine ⟨b, a, rfl, by omega, by omega, ?_⟩
    rw [e]
    refine br_tt rfl ⟨Nat.le_of_ble_eq_true rfl, by decide +kernel, br_tt (by decide +kernel) ?_⟩
    refine ⟨Ti a, Ti b, rfl, Ph.two_ok ra rb ⟨(fun z => by rw [e] at z; cases z), fun _ => op_out ⟨Nat.le_of_ble_eq_true rfl, by decide +kernel, ?_⟩⟩⟩
    rw [show eqb _ _ = true from by decide +kernel]
    exact q
  | true =>
    obtain ⟨f, hr, hw, hf, hu⟩ := Ph.road_ok hl na.1 e al
    have es : sts a b = f := by
      unfold sts
      rw [hr]
    have kv := kdd_sts (f := f) (by omega)
    have wa := Ph.wlk_aft (row := a) (sts := f) ra.2.2
    rw [hw] at wa
    have hb := half_bd (by omega) ra.2.2 rb.2.2
    have s64 : Ph.stepsB (.tup (f.map Ph.encS)) 64 = true := Ph.stepsB_of fun q hq => by
      obtain ⟨a0, a1, a2, a3, a4, a5, a6⟩ := ((Ph.wlk_ok f a ra.2.2).1 b hw).1 q hq
      exact ⟨a0, by omega, a2, by omega, a4, a5, a6⟩
    refine ⟨Ti a, Ti b, rfl, Ph.two_ok ra rb ⟨fun _ => ?_, fun z => absurd ⟨e, al⟩ z⟩⟩
    rw [es]
    refine ⟨b, a, rfl, by omega, by omega, ?_⟩
    rw [e]
    refine br_ff rfl (br_ff rfl ?_)
    refine br_if (fun z => ?_) (fun _ => ?_)
    · simp only [List.length_map] at z
      omega
    refine ⟨a, b, f, rfl, by omega, hw, br_ff rfl ?_⟩
    refine ⟨Ti a, Ti b, _, rfl, Ph.two_ok ra rb ⟨kv, ?_⟩⟩
    rw [wa, decide_eq_true rfl]
    refine br_ff rfl ⟨Ti a, _, rfl, at_row ra ⟨kv, fun r er => ?_, fun er => by rw [wa] at er; cases er⟩⟩
    rw [wa] at er
    cases er
    refine ⟨pl2 _ _, ?_⟩
    rw [Ph.eqb_Ti, decide_eq_true rfl]
    refine br_ff rfl ⟨_, rfl, kv, fun _ => ?_, fun z => by rw [s64] at z; cases z⟩
    rw [Ph.sts_enc, un_eq, hu]
    refine ⟨Ti a, Ti b, rfl, Ph.two_ok ra rb ⟨fun _ => ?_, fun z => by rw [e] at z; cases z⟩⟩
    have sh := sho_halves hb.1 hb.2
    refine ⟨Nat.le_of_ble_eq_true rfl, sh, a, b, rfl, hl, by omega, Nat.le_of_ble_eq_true rfl, ⟨by decide, by decide, Nat.le_of_ble_eq_true rfl⟩, sh, eqS q⟩
theorem len_L_road_right (ds : List D) (Q : D → Prop) (Ex : Xc → Prop) (h : F_L_road_right ds Q Ex) : ds.length = 2 := by
  obtain ⟨x, y, rfl, _⟩ := h
  rfl
end Pr

namespace Pr
open PySem PySem.Spec PyProof.Rows L2 LamX Pd
abbrev smTail : WS := (sSeq (sSet 2 (wCall F_L_near_row (wCons (wVar 0) (wCons (wVar 1) wNil)))) (sSeq (sSet 3 (wCall F_L_fewest (wCons (wVar 1) (wCons (wVar 2) wNil)))) (sSeq (sSet 4 (wOut cls_L_outcome hs_L_outcome (wCall F_fewest_units (wCons (wVar 1) (wCons (wVar 2) wNil))))) (sRet (wBin dEqS (x1 fReprA (wVar 4)) (x1 fReprA (wIf (wTest (wBin dIs (wVar 3) (W.ret .non))) (wLst (wSz (wCons (W.ret (.str "operation")) wNil))) (wVar 3))))))))
theorem small_ok {p : Addr} {a : List Int} {j2 j3 j4 j5 j6 : Option Sl} {Q : D → Prop} {Ex : Xc → Prop} (n1 : 1 ≤ a.length) (n4 : a.length ≤ 4) (ha : ∀ x ∈ a, 0 ≤ x) (s8 : a.sum ≤ 8) (q : Q (.bl true)) :
    smTail (dEnds Q Ex) [some (.d (.box p)), some (.d (Ti a)), j2, j3, j4, j5, j6] := by
  have ne : a ≠ [] := fun z => by rw [z] at n1; simp at n1
  have s0 : 0 ≤ a.sum := by
    have : ∀ q : List Int, (∀ y ∈ q, 0 ≤ y) → 0 ≤ q.sum := fun q => by
      induction q with
      | nil => exact fun _ => Int.le_refl _
      | cons y q ih =>
        intro h
        rw [List.sum_cons]
        have := h y List.mem_cons_self
        have := ih fun z hz => h z (List.mem_cons_of_mem _ hz)
        omega
    exact this a ha
  have na : Ph.nrow a := ⟨ne, by omega, ha, by
    have : (8 : Int) < 10 ^ 29 := by decide
    omega⟩
  have ra := Ph.nrow_row na
  refine ⟨p, a, rfl, na, fun b lb sb hb => ?_⟩
  have nb : Ph.nrow b := ⟨fun z => by rw [z] at lb; simp at lb; omega, by omega, hb, by rw [sb]; exact na.2.2.2⟩
  have rb := Ph.nrow_row nb
  have bd := half_bd (a := a) (b := b) (by omega) ra.2.2 rb.2.2
  refine ⟨a, b, a.sum.toNat, rfl, n1, n4, lb, ha, hb, by omega, by omega, by omega, ?_⟩
  cases e : Ph.belowI b a with
  | true =>
    rw [if_pos rfl]
    refine ⟨Ti a, Ti b, rfl, Ph.two_ok ra rb ⟨fun _ => ?_, fun z => by rw [e] at z; cases z⟩⟩
    have sh := sho_half bd.1 bd.2
    exact ⟨sh, br_ff rfl ⟨sh, eqS q⟩⟩
  | false =>
    rw [if_neg Bool.false_ne_true]
    refine ⟨Ti a, Ti b, rfl, Ph.two_ok ra rb ⟨(fun z => by rw [e] at z; cases z), fun _ => op_out ?_⟩⟩
    exact ⟨sho_op, br_tt rfl ⟨Nat.le_of_ble_eq_true rfl, sho_op, eqS q⟩⟩
theorem pure_L_small_right (ds : List D) (Q : D → Prop) (Ex : Xc → Prop) (h : F_L_small_right ds Q Ex) : w_L_small_right (dEnds Q Ex) (startE N_L_small_right ds) := by
  obtain ⟨p, rfl, q⟩ := h
  refine ⟨p, 4, rfl, by decide, by decide, fun r r0 r1 => ?_⟩
  refine ⟨by omega, by omega, ?_⟩
  refine Ph.comp_drawn (fun n => 0 ≤ n ∧ n < 4) (fun s => [some (.d (.box p)), none, none, none, none, s, none]) (fun _ _ => rfl) (fun x K ex hk => ⟨p, 4, rfl, by decide, by decide, fun r h0 h1 => hk r ⟨h0, h1⟩⟩) _ none [] (fun n hn => nomatch hn) fun ns s e1 e2 => ?_
  have ln : (ns.length : Int) = 1 + r := by
    rw [e1, Ph.upTo0, List.length_map, List.length_range, List.length_nil]
    omega
  refine ⟨ns, rfl, ?_⟩
  refine br_if (fun (c : ns.sum < 9) => ?_) (fun (c : ¬ ns.sum < 9) => ?_)
  · exact small_ok (by omega) (by omega) (fun x hx => (e2 x hx).1) (by omega) q
  · refine comp_all (v := 6) (fun z => [some (.d (.box p)), some (.d (Ti ns)), none, none, none, none, z]) D.int (fun x => D.int (x / 2)) ns none [] (fun _ _ => rfl) (fun x hx K ex z => ⟨by decide, z⟩) fun z => ?_
    have em : [] ++ ns.map (fun x => D.int (x / 2)) = (ns.map fun x => x / 2).map D.int := by
      rw [List.nil_append, List.map_map]
      rfl
    have lh : (ns.map fun x : Int => x / 2).length = ns.length := List.length_map _
    have key : ∀ l : List Int, (∀ n ∈ l, 0 ≤ n ∧ n < 4) → (l.map fun x : Int => x / 2).sum ≤ l.length := fun l => by
      induction l with
      | nil => exact fun _ => Int.le_refl _
      | cons y l ih =>
        intro h
        rw [List.map_cons, List.sum_cons, List.length_cons]
        have := h y List.mem_cons_self
        have := ih fun z hz => h z (List.mem_cons_of_mem _ hz)
        omega
    have k := key ns e2
    rw [em]
    refine small_ok (a := ns.map fun x => x / 2) (by omega) (by omega) (fun x hx => ?_) (by omega) q
    obtain ⟨y, hy, rfl⟩ := List.mem_map.mp hx
    have := e2 y hy
    omega
theorem len_L_small_right (ds : List D) (Q : D → Prop) (Ex : Xc → Prop) (h : F_L_small_right ds Q Ex) : ds.length = 1 := by
  obtain ⟨x, rfl, _⟩ := h
  rfl
end Pr

namespace Pr
open PySem PySem.Spec PyProof.Rows L2 LamX Pd
theorem sum_lt : ∀ ns : List Int, (∀ n ∈ ns, 0 ≤ n ∧ n < 10 ^ 28) → ns.sum ≤ 10 ^ 28 * (ns.length : Int)
  | [], _ => by simp
  | x :: ns, h => by
    have := sum_lt ns fun n hn => h n (List.mem_cons_of_mem _ hn)
    have := (h x List.mem_cons_self).2
    rw [List.sum_cons, List.length_cons]
    have e : (10 : Int) ^ 28 * ((ns.length + 1 : Nat) : Int) = 10 ^ 28 * (ns.length : Int) + 10 ^ 28 := by
      rw [Int.natCast_add, Int.mul_add]
      rfl
    omega
theorem arr_all {a b : List Int} (hl : a.length = b.length) : (Ph.arr a b).Perm a := by
  have e : (Ph.pl b).map (Ph.atP ((Ph.pl b).zip (dn a))) = dn a := by
    refine List.ext_getElem? fun k => ?_
    rw [List.getElem?_map]
    cases h : (Ph.pl b)[k]? with
    | none =>
      have := List.getElem?_eq_none_iff.mp h
      rw [Ph.pl_len] at this
      rw [List.getElem?_eq_none (by rw [dn_len]; omega)]
      rfl
    | some i =>
      have hk := (List.getElem?_eq_some_iff.mp h).1
      rw [Ph.pl_len] at hk
      have hv : (dn a)[k]? = some ((dn a)[k]'(by rw [dn_len]; omega)) := List.getElem?_eq_getElem (by rw [dn_len]; omega)
      rw [hv]
      show some (Ph.atP _ i) = _
      unfold Ph.atP
      rw [Ph.find_zip (Ph.pl_nodup b) h hv]
      rfl
  have p := (Ph.pl_perm b).map (Ph.atP ((Ph.pl b).zip (dn a)))
  rw [e] at p
  exact p.symm.trans (dn_perm a)
theorem arr_nrow {a b : List Int} (hl : a.length = b.length) (h : Ph.nrow a) : Ph.nrow (Ph.arr a b) := by
  have p := arr_all hl
  refine ⟨fun z => ?_, by rw [p.length_eq]; exact h.2.1, fun n hn => h.2.2.1 n (p.mem_iff.mp hn), by rw [Ph.sum_perm p]; exact h.2.2.2⟩
  rw [z] at p
  exact h.1 (List.nil_perm.mp p)
theorem zip_sw : ∀ (b a : List Int) {r : Int × Int}, r ∈ b.zip a → (r.2, r.1) ∈ a.zip b
  | [], _, _, h => nomatch h
  | _ :: _, [], _, h => nomatch h
  | x :: b, y :: a, r, h => by
    rcases List.mem_cons.mp h with rfl | h
    · exact List.mem_cons_self
    · exact List.mem_cons_of_mem _ (zip_sw b a h)
theorem alk_symm {a b : List Int} (h : Ph.alk (a.zip b) = true) : Ph.alk (b.zip a) = true := by
  refine (Ph.alk_iff _).mpr fun p hp q hq h1 h2 => ?_
  have sw : ∀ {r : Int × Int}, r ∈ b.zip a → (r.2, r.1) ∈ a.zip b := fun {r} hr => zip_sw b a hr
  exact (Ph.alk_iff _).mp h (q.2, q.1) (sw hq) (p.2, p.1) (sw hp) h2 h1
theorem one_same (a : Nat → Int) (i : Nat) (s : List Ph.Stp × Ph.Stk) : Ph.one a a s i = s := by
  unfold Ph.one
  rw [Int.sub_self, if_neg (by decide), fill_zero, List.append_nil]
theorem sts_same (a : List Int) : sts a a = [] := by
  have key : ∀ (f : Nat → Int) (L : List Nat) (s : List Ph.Stp × Ph.Stk), L.foldl (Ph.one f f) s = s := fun f L => by
    induction L with
    | nil => exact fun _ => rfl
    | cons i L ih =>
      intro s
      rw [List.foldl_cons, one_same, ih]
  unfold sts Ph.run
  rw [key]
theorem below_same {a b : List Int} (hl : b.length = a.length) (hs : b.sum = a.sum) (hd : dn b = dn a) : Ph.belowI b a = true := by
  unfold Ph.belowI Ph.cmpI
  rw [decide_eq_true hl, decide_eq_true hs]
  exact Ph.less_same hl hd
theorem alk_self (a : List Int) : Ph.alk (a.zip a) = true := by
  have key : ∀ (l : List Int) (p : Int × Int), p ∈ l.zip l → p.1 = p.2 := fun l => by
    induction l with
    | nil => exact fun p hp => nomatch hp
    | cons x l ih =>
      intro p hp
      rcases List.mem_cons.mp hp with rfl | hp
      · rfl
      · exact ih p hp
  refine (Ph.alk_iff _).mpr fun p hp q hq h1 h2 => ?_
  have := key a p hp
  have := key a q hq
  omega
theorem half_same {a b : List Int} (h : dn b = dn a) : Ph.half a b = 0 := by
  have key : ∀ l : List Int, ((l.zip l).map fun p => Ph.absI (p.1 - p.2)).sum = 0 := fun l => by
    induction l with
    | nil => rfl
    | cons x l ih =>
      rw [List.zip_cons_cons, List.map_cons, List.sum_cons, ih]
      show Ph.absI (x - x) + 0 = 0
      rw [Int.sub_self]
      rfl
  unfold Ph.half Ph.gap
  rw [h, key]
  rfl
abbrev roTail : WS := (sSeq (sAsg (wTup (wCons (wCall F_L_odd_row (wCons (wVar 0) wNil)) (wCons (xBin fAdd (wSl (wVar 1) (W.ret none) (wPart (wNeg (W.ret (.int 1))))) (wTup (wCons (xBin fAdd (xBin fIdx (wVar 1) (wNeg (W.ret (.int 1)))) (W.ret (.int 1))) wNil))) wNil))) (gTupP (gsCons (gNm 5) (gsCons (gNm 6) gsNil)) 2)) (sSeq (sSetOwn 4 (wSz (wCons (wOut cls_L_outcome hs_L_outcome (wCall F_road (wCons (wVar 5) (wCons (wVar 1) wNil)))) wNil))) (sSeq (sDrop (wAppend 4 (wOut cls_L_outcome hs_L_outcome (wCall F_road (wCons (wVar 1) (wCons (wVar 5) wNil)))))) (sSeq (sDrop (wAppend 4 (wOut cls_L_outcome hs_L_outcome (wCall F_fewest_units (wCons (wVar 5) (wCons (wVar 6) wNil)))))) (sSeq (sDrop (wAppend 4 (wOut cls_L_outcome hs_L_outcome (wCall F_road (wCons (wVar 1) (wCons (wVar 6) wNil)))))) (sSeq (sDrop (wAppend 4 (wOut cls_L_outcome hs_L_outcome (wCall F_fewest_units (wCons (wVar 1) (wCons (wVar 6) wNil)))))) (sSeq (sDrop (wAppend 4 (wOut cls_L_outcome hs_L_outcome (wCall F_road (wCons (wVar 1) (wCons (xBin fAdd (wVar 1) (wTup (wCons (W.ret (.int 0)) wNil))) wNil)))))) (sSeq (sIf (wTest (xBin fNe (wFrz 4) (xBin fAdd (xBin fMul (wLst (wSz (wCons (wLst (wSz (wCons (W.ret (.str "sums")) wNil))) wNil))) (W.ret (.int 3))) (xBin fMul (wLst (wSz (wCons (wLst (wSz (wCons (W.ret (.str "operation")) wNil))) wNil))) (W.ret (.int 3)))))) (sRet (W.ret (.bl false))) sNil) (sRet (wAnd (xBin fEq (wCall F_road (wCons (wVar 1) (wCons (wVar 1) wNil))) (wTup wNil)) (xBin fEq (wCall F_fewest_units (wCons (wVar 1) (wCons (wRevT (wVar 1)) wNil))) (W.ret (.int 0)))))))))))))
theorem tail_ok {p : Addr} {row : List Int} {s2 s3 : Option Sl} {Q : D → Prop} {Ex : Xc → Prop} (nr : Ph.nrow row) (l7 : row.length ≤ 7) (hb : ∀ n ∈ row, n < 10 ^ 28) (q : Q (.bl true)) :
    roTail (dEnds Q Ex) [some (.d (.box p)), some (.d (Ti row)), s2, s3, none, none, none] := by
  have ra := Ph.nrow_row nr
  have ne := nr.1
  refine ⟨p, rfl, fun x hx => ?_⟩
  obtain ⟨kx, rx⟩ := Ph.odd_no x hx
  obtain ⟨ini, z, er⟩ : ∃ ini z, row = ini ++ [z] := ⟨_, _, (List.dropLast_concat_getLast ne).symm⟩
  have ix : dIdx (Ti row) (.int (-1)) = some (.int z) := by
    show atI (row.map D.int) (-1) = _
    rw [Ph.idx_last (by simpa using ne), er, List.map_append]
    exact List.getLast?_concat ..
  have cu : Pd.cutD (row.map D.int) none (some (-1)) = ini.map D.int := by
    rw [Ph.cut_but_last, er, List.map_append]
    exact List.dropLast_concat
  have wrong : ini.map D.int ++ [D.int (z + 1)] = (ini ++ [z + 1]).map D.int := by
    rw [List.map_append]
    rfl
  have lr : (ini ++ [z + 1]).length = row.length := by rw [er, List.length_append, List.length_append]; rfl
  have sr : (ini ++ [z + 1]).sum = row.sum + 1 := by
    rw [er, List.sum_append, List.sum_append]
    show _ + (z + 1 + 0) = _ + (z + 0) + 1
    omega
  have rw_ : Ph.rowI (ini ++ [z + 1]) := ⟨by simp, by rw [lr]; exact ra.2.1, fun n hn => by
    rcases List.mem_append.mp hn with hn | hn
    · exact ra.2.2 n (by rw [er]; exact List.mem_append_left _ hn)
    · have h1 := ra.2.2 z (by rw [er]; exact List.mem_append_right _ List.mem_cons_self)
      have h2 := hb z (by rw [er]; exact List.mem_append_right _ List.mem_cons_self)
      have h3 : (10 : Int) ^ 28 ≤ maxN := by decide
      rw [List.mem_singleton.mp hn]
      omega⟩
  have bw : Ph.belowI (ini ++ [z + 1]) row = false := by
    unfold Ph.belowI Ph.cmpI
    rw [decide_eq_false (show ¬ (ini ++ [z + 1]).sum = row.sum by omega), Bool.and_false]
    rfl
  refine ⟨_, ix, Nat.le_of_ble_eq_true rfl, ?_⟩
  have ll : (Pd.cutD (row.map D.int) none (some (-1))).length + [D.int (z + 1)].length ≤ 1000000 := by
    rw [cu, List.length_map]
    have := congrArg List.length er
    rw [List.length_append] at this
    show ini.length + 1 ≤ 1000000
    omega
  refine ⟨ll, Nat.le_of_ble_eq_true rfl, rfl, ?_⟩
  rw [cu, wrong]
  refine ⟨x, Ti row, rfl, Ph.two_bad kx (kds_Ti row) (by rw [rx]; rfl) (sums_out ⟨Nat.le_of_ble_eq_true rfl, ?_⟩)⟩
  try dsimp only
  show sSeq (sDrop _) _ _ [_, _, _, _, _, _, _]
  apply Ph.seq_app (i := 4)
  · rfl
  · exact Nat.le_of_ble_eq_true rfl
  refine ⟨Ti row, x, rfl, Ph.two_bad (kds_Ti row) kx (by rw [rx, Bool.and_false]) (sums_out ?_)⟩
  show sSeq (sDrop _) _ _ [_, _, _, _, _, _, _]
  apply Ph.seq_app (i := 4)
  · rfl
  · exact Nat.le_of_ble_eq_true rfl
  refine ⟨x, Ti (ini ++ [z + 1]), rfl, Ph.two_bad kx (kds_Ti _) (by rw [rx]; rfl) (sums_out ?_)⟩
  show sSeq (sDrop _) _ _ [_, _, _, _, _, _, _]
  apply Ph.seq_app (i := 4)
  · rfl
  · exact Nat.le_of_ble_eq_true rfl
  refine ⟨Ti row, Ti (ini ++ [z + 1]), rfl, Ph.two_ok ra rw_ ⟨(fun w => by rw [bw] at w; cases w.1), fun _ => op_out ?_⟩⟩
  show sSeq (sDrop _) _ _ [_, _, _, _, _, _, _]
  apply Ph.seq_app (i := 4)
  · rfl
  · exact Nat.le_of_ble_eq_true rfl
  refine ⟨Ti row, Ti (ini ++ [z + 1]), rfl, Ph.two_ok ra rw_ ⟨(fun w => by rw [bw] at w; cases w), fun _ => op_out ?_⟩⟩
  show sSeq (sDrop _) _ _ [_, _, _, _, _, _, _]
  apply Ph.seq_app (i := 4)
  · rfl
  · exact Nat.le_of_ble_eq_true rfl
  have rz : Ph.rowI (row ++ [0]) := ⟨by simp, by rw [List.length_append]; show row.length + 1 ≤ 64; omega, fun n hn => by
    rcases List.mem_append.mp hn with hn | hn
    · exact ra.2.2 n hn
    · rw [List.mem_singleton.mp hn]
      decide⟩
  have ez : row.map D.int ++ [D.int 0] = (row ++ [0]).map D.int := by
    rw [List.map_append]
    rfl
  have bz : Ph.belowI (row ++ [0]) row = false := by
    have n : ¬ (row ++ [(0 : Int)]).length = row.length := by
      rw [List.length_append]
      show ¬ row.length + 1 = row.length
      omega
    unfold Ph.belowI Ph.cmpI
    rw [decide_eq_false n, Bool.false_and, Bool.false_and]
  have lz : (row.map D.int).length + [D.int 0].length ≤ 1000000 := by rw [List.length_map]; show row.length + 1 ≤ 1000000; omega
  refine ⟨Nat.le_of_ble_eq_true rfl, lz, ?_⟩
  rw [ez]
  refine ⟨_, _, rfl, Ph.two_ok ra rz ⟨(fun w => by rw [bz] at w; cases w.1), fun _ => op_out ?_⟩⟩
  repeat (first | refine ⟨by first | decide | exact Nat.le_of_ble_eq_true rfl, ?_⟩ | refine ⟨⟨by decide, by decide, by first | decide | exact Nat.le_of_ble_eq_true rfl⟩, ?_⟩)
  refine ⟨by decide +kernel, br_ff ?h ?k⟩
  case h => decide +kernel
  dsimp only [sNil]
  refine ⟨Ti row, Ti row, rfl, Ph.two_ok ra ra ⟨fun _ => ?_, fun w => absurd ⟨below_same rfl rfl rfl, alk_self row⟩ w⟩⟩
  rw [sts_same]
  have rr : (row.map D.int).reverse = row.reverse.map D.int := List.map_reverse.symm
  have rrow : Ph.rowI row.reverse := ⟨by simpa using ne, by rw [List.length_reverse]; exact ra.2.1, fun n hn => ra.2.2 n (List.mem_reverse.mp hn)⟩
  have dr : dn row.reverse = dn row := Ph.dn_perm_eq row.reverse_perm
  have br_ : Ph.belowI row.reverse row = true := below_same List.length_reverse (Ph.sum_perm row.reverse_perm) dr
  refine ⟨Nat.le_of_ble_eq_true rfl, by decide +kernel, br_tt (by decide +kernel) ?_⟩
  refine ⟨Ti row, Ti row.reverse, by rw [rr], Ph.two_ok ra rrow ⟨fun _ => ?_, fun w => by rw [br_] at w; cases w⟩⟩
  rw [half_same dr]
  exact ⟨by decide +kernel, q⟩
theorem pure_L_right (ds : List D) (Q : D → Prop) (Ex : Xc → Prop) (h : F_L_right ds Q Ex) : w_L_right (dEnds Q Ex) (startE N_L_right ds) := by
  obtain ⟨p, rfl, q⟩ := h
  refine ⟨p, 7, rfl, by decide, by decide, fun row hne hl hb => ?_⟩
  have nr : Ph.nrow row := ⟨hne, by omega, fun n hn => (hb n hn).1, by
    have := sum_lt row hb
    have h7 : (10 : Int) ^ 28 * (row.length : Int) ≤ 10 ^ 28 * 7 := Int.mul_le_mul_of_nonneg_left hl (by decide)
    have h8 : (10 : Int) ^ 28 * 7 < 10 ^ 29 := by decide
    omega⟩
  have ra := Ph.nrow_row nr
  have lp : 0 < row.length := List.length_pos_iff.mpr hne
  refine ⟨p, row, rfl, nr, fun r1 e1 e2 e3 => ?_⟩
  have n1 : Ph.nrow r1 := ⟨fun z => by rw [z] at e1; simp at e1; omega, by omega, e3, by rw [e2]; exact nr.2.2.2⟩
  have r1r := Ph.nrow_row n1
  refine ⟨Ti r1, Ti row, rfl, Ph.two_ok r1r ra ⟨fun _ => ?_, fun h => absurd e1 h⟩⟩
  have p1 := arr_all (a := r1) (b := row) e1
  have p2 := arr_all (a := row) (b := r1) e1.symm
  have k1 := Ph.arr_alk (a := r1) (b := row) e1
  have k2 := Ph.arr_alk (a := row) (b := r1) e1.symm
  refine ⟨row, Ph.arr r1 row, rfl, nr, arr_nrow e1 n1, by rw [p1.length_eq, e1], by rw [Ph.sum_perm p1, e2], alk_symm k1, br_ff rfl ?_⟩
  refine ⟨Ti row, Ti r1, rfl, Ph.two_ok ra r1r ⟨fun _ => ?_, fun h => absurd e1.symm h⟩⟩
  refine ⟨Ph.arr row r1, r1, rfl, arr_nrow e1.symm nr, n1, by rw [p2.length_eq, e1], by rw [Ph.sum_perm p2, e2], k2, br_ff rfl ?_⟩
  refine ⟨Ti row, Ti r1, rfl, Ph.two_ok ra r1r ?_⟩
  rw [decide_eq_true e1.symm, Bool.true_and]
  cases k : Ph.alk (row.zip r1) with
  | true => exact br_ff rfl (br_ff rfl (tail_ok nr (by omega) (fun n hn => (hb n hn).2) q))
  | false =>
    refine br_tt rfl ⟨Ti row, Ti r1, rfl, Ph.two_ok ra r1r ⟨(fun z => by rw [k] at z; cases z.2), fun _ => op_out ?_⟩⟩
    refine ⟨Nat.le_of_ble_eq_true rfl, by decide +kernel, br_ff (by decide +kernel) (tail_ok nr (by omega) (fun n hn => (hb n hn).2) q)⟩
theorem len_L_right (ds : List D) (Q : D → Prop) (Ex : Xc → Prop) (h : F_L_right ds Q Ex) : ds.length = 1 := by
  obtain ⟨x, rfl, _⟩ := h
  rfl
end Pr

namespace Pr
open PySem PySem.Spec PyProof.Rows L2 LamX Pd
theorem ord_of {a b : List Int} {l : List Nat} (pm : l.Perm (List.range a.length)) (s : l.Pairwise fun i j => Ph.le3 a b i j = true) : Ph.ord a b = l := by
  have h := List.pairwise_mergeSort (le := Ph.le3 a b) (fun i j k h1 h2 => by
    unfold Ph.le3 at *
    have h1 := of_decide_eq_true h1
    have h2 := of_decide_eq_true h2
    exact decide_eq_true (by omega)) (fun i j => by
    unfold Ph.le3
    rw [← Bool.decide_or]
    exact decide_eq_true (by omega)) (List.range a.length)
  exact List.Perm.eq_of_pairwise (le := fun i j => Ph.le3 a b i j = true) (fun i j _ _ h1 h2 => by
    unfold Ph.le3 at h1 h2
    have h1 := of_decide_eq_true h1
    have h2 := of_decide_eq_true h2
    omega) h s ((Ph.ord_perm a b).trans pm.symm)
theorem sts_ex : sts [3, 1] [2, 2] = [(0, 1, 1)] := by
  have h : Ph.ord [3, 1] [2, 2] = [0, 1] := ord_of (by decide) (by decide)
  unfold sts
  rw [h]
  decide
theorem bel {a b : List Int} (h1 : b.length = a.length) (h2 : b.sum = a.sum) (h : Ph.undB (Ph.srt b) (Ph.srt a) = true) : Ph.belowI b a = true := by
  rw [Ph.below_und h1 h2, Ph.dn_srt, Ph.dn_srt]
  exact h
theorem half_ex (a b : List Int) (v : Int) (h : Ph.gapB (Ph.srt a) (Ph.srt b) / 2 = v) : Ph.half a b = v := by
  unfold Ph.half Ph.gap
  rw [Ph.dn_srt, Ph.dn_srt]
  exact h
theorem pure_law (ds : List D) (Q : D → Prop) (Ex : Xc → Prop) (h : F_law ds Q Ex) : w_law (dEnds Q Ex) (startE N_law ds) := by
  obtain ⟨ns, rfl, hl, q⟩ := h
  have hm : ∃ m : Int, m = (if (if (ns.length : Int) < 8 then (ns.length : Int) else 8) > 1 then (if (ns.length : Int) < 8 then (ns.length : Int) else 8) else 1) ∧ 0 ≤ m ∧ m ≤ 8 := ⟨_, rfl, by split <;> split <;> omega, by split <;> split <;> omega⟩
  obtain ⟨m, em, m0, m1⟩ := hm
  refine ⟨?_, ?_, ?_⟩
  · show (if (if (ns.length : Int) < 8 then (ns.length : Int) else 8) > 1 then (if (ns.length : Int) < 8 then (ns.length : Int) else 8) else 1) ≤ 1000000
    omega
  · show -1000000 ≤ (if (if (ns.length : Int) < 8 then (ns.length : Int) else 8) > 1 then (if (ns.length : Int) < 8 then (ns.length : Int) else 8) else 1)
    omega
  show forW _ _ _ (Pd.upTo 0 (if (if (ns.length : Int) < 8 then (ns.length : Int) else 8) > 1 then (if (ns.length : Int) < 8 then (ns.length : Int) else 8) else 1)) _
  rw [← em]
  refine forW_ind (fun rest env => ∃ (i : Int) (j1 j2 j3 : Option Sl), 0 ≤ i ∧ i ≤ m ∧ rest = Pd.upTo i m ∧ env = [some (.d (.scr ns)), j1, j2, j3]) ?_ ?_ _ _ ⟨0, none, none, none, Int.le_refl _, m0, rfl, rfl⟩
  · rintro x rest env ⟨i, j1, j2, j3, i0, im, er, rfl⟩ ih
    have hlt : i < m := by
      apply Decidable.byContradiction
      intro z
      rw [upTo_nil (by omega)] at er
      cases er
    rw [upTo_cons hlt] at er
    cases er
    refine ⟨ns, i, rfl, i0, by omega, by omega, fun p => ?_⟩
    refine ⟨p, rfl, br_ff rfl ⟨p, rfl, br_ff rfl ?_⟩⟩
    exact ih _ ⟨i + 1, _, _, _, by omega, by omega, rfl, rfl⟩
  · rintro env ⟨i, j1, j2, j3, i0, im, er, rfl⟩
    have rw_ : ∀ l : List Int, l ≠ [] → l.length ≤ 64 → (∀ n ∈ l, 0 ≤ n ∧ n ≤ maxN) → Ph.rowI l := fun l a b c => ⟨a, b, c⟩
    have r510 := rw_ [5, 1, 0] (by decide) (by decide) (by decide)
    have r222 := rw_ [2, 2, 2] (by decide) (by decide) (by decide)
    have r105 := rw_ [1, 0, 5] (by decide) (by decide) (by decide)
    have r31 := rw_ [3, 1] (by decide) (by decide) (by decide)
    have r22 := rw_ [2, 2] (by decide) (by decide) (by decide)
    have r20 := rw_ [2, 0] (by decide) (by decide) (by decide)
    have r02 := rw_ [0, 2] (by decide) (by decide) (by decide)
    have b1 : Ph.belowI [2, 2, 2] [5, 1, 0] = true := bel rfl rfl (by decide)
    have b2 : Ph.belowI [2, 2] [3, 1] = true := bel rfl rfl (by decide)
    have b3 : Ph.belowI [2, 2, 2] [1, 0, 5] = true := bel rfl rfl (by decide)
    have a4 : Ph.alk (([2, 0] : List Int).zip [0, 2]) = false := by decide
    refine ⟨by decide, by decide, Ti [5, 1, 0], Ti [2, 2, 2], rfl, Ph.two_ok r510 r222 ⟨fun _ => ?_, fun z => by rw [b1] at z; cases z⟩⟩
    rw [half_ex [5, 1, 0] [2, 2, 2] 3 (by decide)]
    refine ⟨by decide, by decide, Ti [3, 1], Ti [2, 2], rfl, Ph.two_ok r31 r22 ⟨fun _ => ?_, fun z => absurd ⟨b2, by decide⟩ z⟩⟩
    rw [sts_ex]
    obtain ⟨f, hr, hw, hf, hu⟩ := Ph.road_ok (a := [1, 0, 5]) (b := [2, 2, 2]) rfl (by decide) b3 (by decide)
    have es : sts [1, 0, 5] [2, 2, 2] = f := by
      unfold sts
      rw [hr]
    have s64 : Ph.stepsB (.tup (f.map Ph.encS)) 64 = true := Ph.stepsB_of fun q hq => by
      obtain ⟨a0, a1, a2, a3, a4, a5, a6⟩ := ((Ph.wlk_ok f [1, 0, 5] r105.2.2).1 [2, 2, 2] hw).1 q hq
      have e3 : (([1, 0, 5] : List Int).length : Int) = 3 := rfl
      exact ⟨a0, by omega, a2, by omega, a4, a5, a6⟩
    refine ⟨by decide, by decide, Ti [1, 0, 5], Ti [2, 2, 2], rfl, Ph.two_ok r105 r222 ⟨fun _ => ?_, fun z => absurd ⟨b3, by decide⟩ z⟩⟩
    rw [es]
    refine ⟨_, rfl, kdd_sts (by have e3 : ([1, 0, 5] : List Int).length = 3 := rfl; omega), fun _ => ?_, fun z => by rw [s64] at z; cases z⟩
    rw [Ph.sts_enc, un_eq, hu, half_ex [1, 0, 5] [2, 2, 2] 3 (by decide)]
    refine ⟨Nat.le_of_ble_eq_true rfl, ?_⟩
    refine ⟨by decide, by decide, Ti [2, 0], Ti [0, 2], rfl, Ph.two_ok r20 r02 ⟨(fun z => by rw [a4] at z; cases z.2), fun _ => op_out ?_⟩⟩
    repeat (first | refine ⟨by first | decide | exact Nat.le_of_ble_eq_true rfl, ?_⟩ | refine ⟨⟨by decide, by decide, by first | decide | exact Nat.le_of_ble_eq_true rfl⟩, ?_⟩)
    refine ⟨by decide +kernel, ?_⟩
    rw [show eqb _ _ = true from by decide +kernel]
    exact q
theorem len_law (ds : List D) (Q : D → Prop) (Ex : Xc → Prop) (h : F_law ds Q Ex) : ds.length = 1 := by
  obtain ⟨ns, rfl, _⟩ := h
  rfl
theorem law_true (ns : List Int) (h : ns.length ≤ 63) : F_law [.scr ns] (fun v => v = .bl true) (fun _ => False) := ⟨ns, rfl, h, rfl⟩
end Pr

namespace Pr
open PySem PySem.Spec PyProof.Rows L2 LamX Pd Hd
structure Fx (P : Program) (w : World) (K : PySem.W.Frag) (mg : Str → Option Value) (base : Heap) (T : List (Addr × Str)) : Prop where
  d_L_bowl : HasD K mg "_law_bowl" s_L_bowl
  d_is_integer : HasD K mg "is_integer" s_is_integer
  d_is_from : HasD K mg "is_from" s_is_from
  d_is_amount : HasD K mg "is_amount" s_is_amount
  d_is_row : HasD K mg "is_row" s_is_row
  d_require_row : HasD K mg "require_row" s_require_row
  d_require_rows : HasD K mg "require_rows" s_require_rows
  d_is_comparable : HasD K mg "is_comparable" s_is_comparable
  d_falling : HasD K mg "falling" s_falling
  d_prefixes : HasD K mg "prefixes" s_prefixes
  d_bars_of : HasD K mg "bars_of" s_bars_of
  d_is_below : HasD K mg "is_below" s_is_below
  d_fewest_units : HasD K mg "fewest_units" s_fewest_units
  d_steps_between : HasD K mg "steps_between" s_steps_between
  d_are_arranged_alike : HasD K mg "are_arranged_alike" s_are_arranged_alike
  d_road : HasD K mg "road" s_road
  d_is_step : HasD K mg "is_step" s_is_step
  d_are_steps : HasD K mg "are_steps" s_are_steps
  d_units : HasD K mg "units" s_units
  d_L_ladle : HasD K mg "_law_ladle" s_L_ladle
  d_L_dealt : HasD K mg "_law_dealt" s_L_dealt
  d_L_pick : HasD K mg "_law_pick" s_L_pick
  d_L_great : HasD K mg "_law_great" s_L_great
  d_L_drawn_row : HasD K mg "_law_drawn_row" s_L_drawn_row
  d_L_moved : HasD K mg "_law_moved" s_L_moved
  d_L_mixed : HasD K mg "_law_mixed" s_L_mixed
  d_L_near_row : HasD K mg "_law_near_row" s_L_near_row
  d_arranged : HasD K mg "arranged" s_arranged
  d_L_odd_row : HasD K mg "_law_odd_row" s_L_odd_row
  d_L_down : HasD K mg "_law_down" s_L_down
  d_L_heads : HasD K mg "_law_heads" s_L_heads
  d_L_under : HasD K mg "_law_under" s_L_under
  d_L_is_way : HasD K mg "_law_is_way" s_L_is_way
  d_behind : HasD K mg "behind" s_behind
  d_is_road : HasD K mg "is_road" s_is_road
  d_after : HasD K mg "after" s_after
  d_L_half : HasD K mg "_law_half" s_L_half
  d_L_road_right : HasD K mg "_law_road_right" s_L_road_right
  d_is_arranged_alike : HasD K mg "is_arranged_alike" s_is_arranged_alike
  d_L_right : HasD K mg "_law_right" s_L_right
  d_L_fewest : HasD K mg "_law_fewest" s_L_fewest
  d_L_small_right : HasD K mg "_law_small_right" s_L_small_right
  d_law : HasD K mg "law" s_law
  d_L_outcome : HasD K mg "_law_outcome" s_L_outcome
  em_L_outcome : ExmOk K cls_L_outcome hs_L_outcome
  gl_InvalidNumber : mg "InvalidNumber" = some (.ref (He.ga K "InvalidNumber"))
  gl_InvalidOperation : mg "InvalidOperation" = some (.ref (He.ga K "InvalidOperation"))
  gl_InvalidSums : mg "InvalidSums" = some (.ref (He.ga K "InvalidSums"))
  gl_TooMany : mg "TooMany" = some (.ref (He.ga K "TooMany"))
  gx_L_right : mg "_law_right" = some (.ref (He.ga K "_law_right"))
  gx_L_road_right : mg "_law_road_right" = some (.ref (He.ga K "_law_road_right"))
  gx_L_small_right : mg "_law_small_right" = some (.ref (He.ga K "_law_small_right"))
  gx_arranged : mg "arranged" = some (.ref (He.ga K "arranged"))
  gx_law : mg "law" = some (.ref (He.ga K "law"))
  gx_steps_between : mg "steps_between" = some (.ref (He.ga K "steps_between"))
  lm_L_right : LamT K mg base T "_law_right"
  lm_L_road_right : LamT K mg base T "_law_road_right"
  lm_L_small_right : LamT K mg base T "_law_small_right"
  lm_arranged : LamT K mg base T "arranged"
  lm_law : LamT K mg base T "law"
  lm_steps_between : LamT K mg base T "steps_between"
  nf_InvalidNumber_value : PySem.W.findIn K (.ref (He.ga K "InvalidNumber")) "value" = some none
  nf_TooMany_limit : PySem.W.findIn K (.ref (He.ga K "TooMany")) "limit" = some none
  xc_InvalidOperation : ExcC K mg "InvalidOperation"
  xc_InvalidSums : ExcC K mg "InvalidSums"
  xf_InvalidNumber : XfC K (He.ga K "InvalidNumber")
  xf_TooMany : XfC K (He.ga K "TooMany")
  b_abs : mg "abs" = none
  b_all : mg "all" = none
  b_any : mg "any" = none
  b_bool : mg "bool" = none
  b_dict : mg "dict" = none
  b_enumerate : mg "enumerate" = none
  b_int : mg "int" = none
  b_isinstance : mg "isinstance" = none
  b_len : mg "len" = none
  b_list : mg "list" = none
  b_max : mg "max" = none
  b_min : mg "min" = none
  b_range : mg "range" = none
  b_repr : mg "repr" = none
  b_set : mg "set" = none
  b_sorted : mg "sorted" = none
  b_sum : mg "sum" = none
  b_tuple : mg "tuple" = none
  b_zip : mg "zip" = none
  c_MAX_LENGTH : ∃ t, mg "MAX_LENGTH" = some (.int 64 t)
  c_MAX_NUMBER : ∃ t, mg "MAX_NUMBER" = some (.int 999999999999999999999999999999 t)
section
variable {P : Program} {w : World} {K : PySem.W.Frag} {mg : Str → Option Value} {base : Heap} {T : List (Addr × Str)}
theorem od_L_outcome (fx : Fx P w K mg base T) : OutD P w K mg base "_law_outcome" cls_L_outcome hs_L_outcome :=
  outD_of (st := s_L_outcome) (Ng := ["_law_call", "e"]) (i := 1) fx.d_L_outcome rfl ⟨rfl, rfl, rfl, by decide +kernel, rfl, by decide +kernel, by decide +kernel⟩ (fun f fd D => D.bindsN fun _ _ _ _ _ _ us hl => match us, hl with | [_], _ => rfl) rfl (.inl rfl) (by decide) (fun g A outer cdg s H => (mixP fx.gl_InvalidSums  (mixP fx.gl_InvalidOperation  (mixN fx.gl_InvalidNumber fx.xf_InvalidNumber fx.nf_InvalidNumber_value  (mixN fx.gl_TooMany fx.xf_TooMany fx.nf_TooMany_limit  mixNil))))) fx.em_L_outcome
theorem ok_L_bowl (fx : Fx P w K mg base T) : DefOk P w K mg base T "_law_bowl" 1 ["_law_script", "_law_at"] F_L_bowl :=
  def_okX (st := s_L_bowl) (N := N_L_bowl) (k := 0) fx.d_L_bowl ⟨rfl, rfl, rfl, by decide +kernel, rfl, by decide +kernel, by decide +kernel⟩ (fun f fd D => D.bindsN fun _ _ _ _ _ _ us hl => match us, hl with | [_, _], _ => rfl) len_L_bowl
    fun cdv A outer s H E f B tk => ⟨w_L_bowl, (jss_cons (js_set 2 B (je_if (jt_cmp opD_lt (je_var 1) (je_b1 (cb_len) fx.b_len (by decide +kernel) (je_b (je_var 0))) rfl) (jx_ix (je_var 0) (je_var 1) fun _ _ => rfl) (jx_bin as_add opD_add (jx_bin as_mul opD_mul je_int (je_var 1)) je_int))) (jss_cons (js_set 3 B (jx_bin as_mod opD_mod (je_t1 cb_int fx.b_int (by decide +kernel) (je_b (je_bN cn_abs fx.b_abs (by decide +kernel) (ja_cons (je_var 2) ja_nil)))) (jx_bin as_pow opD_pow (jx_bin as_pow opD_pow je_int je_int) je_int))) (jss_cons (js_set 4 B (jx_bin as_add opD_add (jx_bin as_add opD_add (jx_bin as_add opD_add (jx_bin as_mul opD_mul (jx_bin as_mod opD_mod (je_t1 cb_int fx.b_int (by decide +kernel) (je_b (je_var 3))) je_int) je_int) (jx_bin as_mul opD_mul je_int (je_var 1))) (jx_bin as_mul opD_mul je_int (je_t1 cb_int fx.b_int (by decide +kernel) (je_b (je_cmp opD_lt (je_var 2) je_int rfl))))) je_int)) (jss_one (js_ret (je_box (jf_lst (ja_cons (je_bN (cn_max2 B.calm) fx.b_max (by decide +kernel) (ja_cons je_int (ja_cons (je_bin opD_sub (je_var 3) (jx_bin as_pow opD_pow je_int je_int)) ja_nil))) (ja_cons (jx_bin as_mod opD_mod (je_t1 cb_int fx.b_int (by decide +kernel) (je_b (je_var 4))) je_int) (ja_cons je_int ja_nil)))))))))), pure_L_bowl⟩
theorem ok_is_integer (fx : Fx P w K mg base T) : DefOk P w K mg base T "is_integer" 1 ["value"] F_is_integer :=
  def_okX (st := s_is_integer) (N := N_is_integer) (k := 0) fx.d_is_integer ⟨rfl, rfl, rfl, by decide +kernel, rfl, by decide +kernel, by decide +kernel⟩ (fun f fd D => D.bindsN fun _ _ _ _ _ _ us hl => match us, hl with | [_], _ => rfl) len_is_integer
    fun cdv A outer s H E f B tk => ⟨w_is_integer, (jss_one (js_ret (je_and (je_isi isT_int fx.b_isinstance fx.b_int (by decide +kernel) (je_var 0)) (je_one (je_not (je_isi isT_bool fx.b_isinstance fx.b_bool (by decide +kernel) (je_var 0))))))), pure_is_integer⟩
theorem ok_is_from (fx : Fx P w K mg base T) : DefOk P w K mg base T "is_from" 2 ["value", "first", "last"] F_is_from :=
  def_okX (st := s_is_from) (N := N_is_from) (k := 1) fx.d_is_from ⟨rfl, rfl, rfl, by decide +kernel, rfl, by decide +kernel, by decide +kernel⟩ (fun f fd D => D.bindsN fun _ _ _ _ _ _ us hl => match us, hl with | [_, _, _], _ => rfl) len_is_from
    fun cdv A outer s H E f B tk => ⟨w_is_from, (jss_one (js_ret (je_and (je_call B (ok_is_integer fx) (ja_cons (je_var 0) ja_nil)) (je_one (je_chain opD_le opD_le (je_var 1) (je_var 0) (je_var 2)))))), pure_is_from⟩
theorem ok_is_amount (fx : Fx P w K mg base T) : DefOk P w K mg base T "is_amount" 3 ["value"] F_is_amount :=
  def_okX (st := s_is_amount) (N := N_is_amount) (k := 2) fx.d_is_amount ⟨rfl, rfl, rfl, by decide +kernel, rfl, by decide +kernel, by decide +kernel⟩ (fun f fd D => D.bindsN fun _ _ _ _ _ _ us hl => match us, hl with | [_], _ => rfl) len_is_amount
    fun cdv A outer s H E f B tk => ⟨w_is_amount, (jss_one (js_ret (je_call B (ok_is_from fx) (ja_cons (je_var 0) (ja_cons je_int (ja_cons (je_gint rfl fx.c_MAX_NUMBER) ja_nil)))))), pure_is_amount⟩
theorem ok_is_row (fx : Fx P w K mg base T) : DefOk P w K mg base T "is_row" 4 ["value"] F_is_row :=
  def_okX (st := s_is_row) (N := N_is_row) (k := 3) fx.d_is_row ⟨rfl, rfl, rfl, by decide +kernel, rfl, by decide +kernel, by decide +kernel⟩ (fun f fd D => D.bindsN fun _ _ _ _ _ _ us hl => match us, hl with | [_], _ => rfl) len_is_row
    fun cdv A outer s H E f B tk => ⟨w_is_row, (jss_cons (js_if (jt_bool (jw_or (jt_not (jt_val (je_isi isT_tuple fx.b_isinstance fx.b_tuple (by decide +kernel) (je_var 0)))) (jw_or1 (jt_not (jt_val (je_call B (ok_is_from fx) (ja_cons (je_b1 (cb_len) fx.b_len (by decide +kernel) (je_b (je_var 0))) (ja_cons je_int (ja_cons (je_gint rfl fx.c_MAX_LENGTH) ja_nil))))))))) (jss_one (js_ret je_bl)) jss_nil) (jss_one (js_ret (jx_b1 as_all (cb_all B.calm) fx.b_all (by decide +kernel) (je_b (jf_e (jf_comp [("entry", 1)] B (ji_seq (je_var 0)) (blkOk_by (by kernel_rfl)) (fun s H C cl fp => (jg_name 1 B.nd)) (fun s H C cl fp B => jts_nil) (fun s H C cl fp B => (je_call B (ok_is_amount fx) (ja_cons (je_var 1) ja_nil)))))))))), pure_is_row⟩
theorem ok_require_row (fx : Fx P w K mg base T) : DefOk P w K mg base T "require_row" 5 ["value"] F_require_row :=
  def_okX (st := s_require_row) (N := N_require_row) (k := 4) fx.d_require_row ⟨rfl, rfl, rfl, by decide +kernel, rfl, by decide +kernel, by decide +kernel⟩ (fun f fd D => D.bindsN fun _ _ _ _ _ _ us hl => match us, hl with | [_], _ => rfl) len_require_row
    fun cdv A outer s H E f B tk => ⟨w_require_row, (jss_one (js_if (jt_not (jt_val (je_call B (ok_is_row fx) (ja_cons (je_var 0) ja_nil)))) (jss_one (js_raise B tk fx.xc_InvalidSums)) jss_nil)), pure_require_row⟩
theorem ok_require_rows (fx : Fx P w K mg base T) : DefOk P w K mg base T "require_rows" 6 ["one", "other"] F_require_rows :=
  def_okX (st := s_require_rows) (N := N_require_rows) (k := 5) fx.d_require_rows ⟨rfl, rfl, rfl, by decide +kernel, rfl, by decide +kernel, by decide +kernel⟩ (fun f fd D => D.bindsN fun _ _ _ _ _ _ us hl => match us, hl with | [_, _], _ => rfl) len_require_rows
    fun cdv A outer s H E f B tk => ⟨w_require_rows, (jss_cons (js_expr (je_call B (ok_require_row fx) (ja_cons (je_var 0) ja_nil))) (jss_one (js_expr (je_call B (ok_require_row fx) (ja_cons (je_var 1) ja_nil))))), pure_require_rows⟩
theorem ok_is_comparable (fx : Fx P w K mg base T) : DefOk P w K mg base T "is_comparable" 1 ["one", "other"] F_is_comparable :=
  def_okX (st := s_is_comparable) (N := N_is_comparable) (k := 0) fx.d_is_comparable ⟨rfl, rfl, rfl, by decide +kernel, rfl, by decide +kernel, by decide +kernel⟩ (fun f fd D => D.bindsN fun _ _ _ _ _ _ us hl => match us, hl with | [_, _], _ => rfl) len_is_comparable
    fun cdv A outer s H E f B tk => ⟨w_is_comparable, (jss_one (js_ret (je_and (jx_cmp as_eq (opD_eq B.u64) (je_b1 (cb_len) fx.b_len (by decide +kernel) (je_b (je_var 0))) (je_b1 (cb_len) fx.b_len (by decide +kernel) (je_b (je_var 1))) rfl) (je_one (jx_cmp as_eq (opD_eq B.u64) (jx_b1 as_sum (cb_sum B.calm) fx.b_sum (by decide +kernel) (je_b (je_var 0))) (jx_b1 as_sum (cb_sum B.calm) fx.b_sum (by decide +kernel) (je_b (je_var 1))) rfl))))), pure_is_comparable⟩
theorem ok_falling (fx : Fx P w K mg base T) : DefOk P w K mg base T "falling" 1 ["row"] F_falling :=
  def_okX (st := s_falling) (N := N_falling) (k := 0) fx.d_falling ⟨rfl, rfl, rfl, by decide +kernel, rfl, by decide +kernel, by decide +kernel⟩ (fun f fd D => D.bindsN fun _ _ _ _ _ _ us hl => match us, hl with | [_], _ => rfl) len_falling
    fun cdv A outer s H E f B tk => ⟨w_falling, (jss_one (js_ret (je_t1 cb_tuple fx.b_tuple (by decide +kernel) (je_b (jf_e (jf_sortedRev B fx.b_sorted (je_b (je_var 0)))))))), pure_falling⟩
theorem ok_prefixes (fx : Fx P w K mg base T) : DefOk P w K mg base T "prefixes" 2 ["row"] F_prefixes :=
  def_okX (st := s_prefixes) (N := N_prefixes) (k := 1) fx.d_prefixes ⟨rfl, rfl, rfl, by decide +kernel, rfl, by decide +kernel, by decide +kernel⟩ (fun f fd D => D.bindsN fun _ _ _ _ _ _ us hl => match us, hl with | [_], _ => rfl) len_prefixes
    fun cdv A outer s H E f B tk => ⟨w_prefixes, (jss_cons (js_parM2 2 3 B (jm_f (jf_lst ja_nil) (jm_e je_int jm_nil))) (jss_cons (js_for B (us := [1]) (ji_seq (je_call B (ok_falling fx) (ja_cons (je_var 0) ja_nil))) (jg_name 1 B.nd) (jss_cons (js_aug 3 B opI_add (je_var 1)) (jss_one (js_expr (je_append 2 (je_var 3)))))) (jss_one (js_ret (je_frz 2))))), pure_prefixes⟩
theorem ok_bars_of (fx : Fx P w K mg base T) : DefOk P w K mg base T "bars_of" 3 ["one", "other"] F_bars_of :=
  def_okX (st := s_bars_of) (N := N_bars_of) (k := 2) fx.d_bars_of ⟨rfl, rfl, rfl, by decide +kernel, rfl, by decide +kernel, by decide +kernel⟩ (fun f fd D => D.bindsN fun _ _ _ _ _ _ us hl => match us, hl with | [_, _], _ => rfl) len_bars_of
    fun cdv A outer s H E f B tk => ⟨w_bars_of, (jss_cons (js_set 2 B (jf_e (jf_listZ B fx.b_list (jz_a fx.b_zip (ja_cons (je_call B (ok_prefixes fx) (ja_cons (je_var 0) ja_nil)) (ja_cons (je_call B (ok_prefixes fx) (ja_cons (je_var 1) ja_nil)) ja_nil)))))) (jss_one (js_ret (jf_e (jf_comp [("index", 3), ("first", 4), ("second", 5)] B (ji_enum rfl fx.b_enumerate (je_var 2)) (blkOk_by (by kernel_rfl)) (fun s H C cl fp => (jg_tup B.calm (jgs_cons (jg_name 3 B.nd) (jgs_cons (jg_tup B.calm (jgs_cons (jg_name 4 B.nd) (jgs_cons (jg_name 5 B.nd) jgs_nil))) jgs_nil)))) (fun s H C cl fp B => (jts_one (jt_cmp opD_gt (je_var 4) (je_var 5) rfl))) (fun s H C cl fp B => (jx_bin as_add opD_add (je_var 3) je_int))))))), pure_bars_of⟩
theorem ok_is_below (fx : Fx P w K mg base T) : DefOk P w K mg base T "is_below" 4 ["one", "other"] F_is_below :=
  def_okX (st := s_is_below) (N := N_is_below) (k := 3) fx.d_is_below ⟨rfl, rfl, rfl, by decide +kernel, rfl, by decide +kernel, by decide +kernel⟩ (fun f fd D => D.bindsN fun _ _ _ _ _ _ us hl => match us, hl with | [_, _], _ => rfl) len_is_below
    fun cdv A outer s H E f B tk => ⟨w_is_below, (jss_one (js_ret (je_and (je_call B (ok_is_comparable fx) (ja_cons (je_var 0) (ja_cons (je_var 1) ja_nil))) (je_one (jx_cmp as_eq (opD_eq B.u64) (je_call B (ok_bars_of fx) (ja_cons (je_var 0) (ja_cons (je_var 1) ja_nil))) (jf_e (jf_lst ja_nil)) rfl))))), pure_is_below⟩
theorem ok_fewest_units (fx : Fx P w K mg base T) : DefOk P w K mg base T "fewest_units" 7 ["row", "lower"] F_fewest_units :=
  def_okX (st := s_fewest_units) (N := N_fewest_units) (k := 6) fx.d_fewest_units ⟨rfl, rfl, rfl, by decide +kernel, rfl, by decide +kernel, by decide +kernel⟩ (fun f fd D => D.bindsN fun _ _ _ _ _ _ us hl => match us, hl with | [_, _], _ => rfl) len_fewest_units
    fun cdv A outer s H E f B tk => ⟨w_fewest_units, (jss_cons (js_expr (je_call B (ok_require_rows fx) (ja_cons (je_var 0) (ja_cons (je_var 1) ja_nil)))) (jss_cons (js_if (jt_not (jt_val (je_call B (ok_is_below fx) (ja_cons (je_var 1) (ja_cons (je_var 0) ja_nil))))) (jss_one (js_raise B tk fx.xc_InvalidOperation)) jss_nil) (jss_one (js_ret (jx_bin as_div opD_div (jx_b1 as_sum (cb_sum B.calm) fx.b_sum (by decide +kernel) (je_b (jf_e (jf_comp [("one", 2), ("other", 3)] B (ji_zip rfl fx.b_zip (je_call B (ok_falling fx) (ja_cons (je_var 0) ja_nil)) (je_call B (ok_falling fx) (ja_cons (je_var 1) ja_nil))) (blkOk_by (by kernel_rfl)) (fun s H C cl fp => (jg_tup B.calm (jgs_cons (jg_name 2 B.nd) (jgs_cons (jg_name 3 B.nd) jgs_nil)))) (fun s H C cl fp B => jts_nil) (fun s H C cl fp B => (je_bN cn_abs fx.b_abs (by decide +kernel) (ja_cons (je_bin opD_sub (je_var 2) (je_var 3)) ja_nil))))))) je_int))))), pure_fewest_units⟩
theorem ok_steps_between (fx : Fx P w K mg base T) : DefOk P w K mg base T "steps_between" 3 ["row", "lower"] F_steps_between :=
  def_okC (st := s_steps_between) (N := N_steps_between) (k := 2) fx.d_steps_between fx.gx_steps_between ⟨rfl, rfl, rfl, by decide +kernel, rfl, by decide +kernel, by decide +kernel⟩ (fun f fd D => D.bindsN fun _ _ _ _ _ _ us hl => match us, hl with | [_, _], _ => rfl) len_steps_between
    fun A outer s H E B tk => ⟨w_steps_between, (jss_cons (js_parM2 3 4 B (jm_f (jf_lst ja_nil) (jm_f (jf_lst ja_nil) jm_nil))) (jss_cons (js_for B (us := [2]) (ji_seq (jf_e (jf_sortKey B fx.lm_steps_between fx.b_sorted fx.b_range (je_b1 (cb_len) fx.b_len (by decide +kernel) (je_b (je_var 0))) (kscope_by (by kernel_rfl)) (.cons (.neg (j := 0) rfl rfl rfl rfl) (fun _ => rfl) (.cons (.neg (j := 1) rfl rfl rfl rfl) (fun _ => rfl) (.cons .self (fun _ => rfl) .nil)))))) (jg_name 2 B.nd) (jss_cons (js_set 5 B (je_bin opD_sub (jx_ix (je_var 1) (je_var 2) fun _ _ => rfl) (jx_ix (je_var 0) (je_var 2) fun _ _ => rfl))) (jss_cons (js_if (jt_cmp opD_lt (je_var 5) je_int rfl) (jss_one (js_expr (je_append 4 (je_cell 7 (jf_lst (ja_cons (je_var 2) (ja_cons (je_neg (je_var 5)) ja_nil))))))) jss_nil) (jss_one (js_while B (jt_cmp opD_gt (je_var 5) je_int rfl) (jss_cons (js_set 6 B (je_bN (cn_min2 B.calm) fx.b_min (by decide +kernel) (ja_cons (je_var 5) (ja_cons (je_ixC 7 (je_ixOwn 4 (je_neg je_int) fun _ _ => rfl) je_int fun _ _ => rfl) ja_nil)))) (jss_cons (js_expr (je_append 3 (je_tup (ja_cons (je_ixC 7 (je_ixOwn 4 (je_neg je_int) fun _ _ => rfl) je_int fun _ _ => rfl) (ja_cons (je_var 2) (ja_cons (je_var 6) ja_nil)))))) (jss_cons (js_aug 5 B opI_sub (je_var 6)) (jss_cons (js_augC 7 (je_ixOwn 4 (je_neg je_int) fun _ _ => rfl) je_int opI_sub (je_var 6)) (jss_one (js_if (jtx_cmp as_eq (opD_eq B.u64) (je_ixC 7 (je_ixOwn 4 (je_neg je_int) fun _ _ => rfl) je_int fun _ _ => rfl) je_int rfl) (jss_one (js_expr (je_pop 4))) jss_nil))))))))))) (jss_one (js_ret (je_frz 3))))), pure_steps_between⟩
theorem ok_are_arranged_alike (fx : Fx P w K mg base T) : DefOk P w K mg base T "are_arranged_alike" 1 ["one", "other"] F_are_arranged_alike :=
  def_okX (st := s_are_arranged_alike) (N := N_are_arranged_alike) (k := 0) fx.d_are_arranged_alike ⟨rfl, rfl, rfl, by decide +kernel, rfl, by decide +kernel, by decide +kernel⟩ (fun f fd D => D.bindsN fun _ _ _ _ _ _ us hl => match us, hl with | [_, _], _ => rfl) len_are_arranged_alike
    fun cdv A outer s H E f B tk => ⟨w_are_arranged_alike, (jss_cons (js_set 2 B (jf_e (jf_listZ B fx.b_list (jz_a fx.b_zip (ja_cons (je_var 0) (ja_cons (je_var 1) ja_nil)))))) (jss_one (js_ret (je_not (jx_b1 as_any (cb_any B.calm) fx.b_any (by decide +kernel) (je_b (jf_e (jf_comp2 [("first", 3), ("second", 4)] [4] B (ji_seq (je_var 2)) (blkOk_by (by kernel_rfl)) (fun s H C cl fp => (jg_name 3 B.nd)) (fun s H C cl fp B => jts_nil) (fun s H C cl fp B => (ji_seq (je_var 2))) (fun s H C cl fp => (jg_name 4 B.nd)) (fun s H C cl fp B => jts_nil) (fun s H C cl fp B => (je_and (je_cmp opD_gt (jx_ix (je_var 3) je_int fun _ _ => rfl) (jx_ix (je_var 4) je_int fun _ _ => rfl) rfl) (je_one (je_cmp opD_lt (jx_ix (je_var 3) je_int fun _ _ => rfl) (jx_ix (je_var 4) je_int fun _ _ => rfl) rfl)))))))))))), pure_are_arranged_alike⟩
theorem ok_road (fx : Fx P w K mg base T) : DefOk P w K mg base T "road" 7 ["row", "lower"] F_road :=
  def_okX (st := s_road) (N := N_road) (k := 6) fx.d_road ⟨rfl, rfl, rfl, by decide +kernel, rfl, by decide +kernel, by decide +kernel⟩ (fun f fd D => D.bindsN fun _ _ _ _ _ _ us hl => match us, hl with | [_, _], _ => rfl) len_road
    fun cdv A outer s H E f B tk => ⟨w_road, (jss_cons (js_expr (je_call B (ok_require_rows fx) (ja_cons (je_var 0) (ja_cons (je_var 1) ja_nil)))) (jss_cons (js_if (jt_bool (jw_or (jt_not (jt_val (je_call B (ok_is_below fx) (ja_cons (je_var 1) (ja_cons (je_var 0) ja_nil))))) (jw_or1 (jt_not (jt_val (je_call B (ok_are_arranged_alike fx) (ja_cons (je_var 0) (ja_cons (je_var 1) ja_nil)))))))) (jss_one (js_raise B tk fx.xc_InvalidOperation)) jss_nil) (jss_one (js_ret (je_t1 cb_tuple fx.b_tuple (by decide +kernel) (je_b (je_call B (ok_steps_between fx) (ja_cons (je_var 0) (ja_cons (je_var 1) ja_nil))))))))), pure_road⟩
theorem ok_is_step (fx : Fx P w K mg base T) : DefOk P w K mg base T "is_step" 3 ["value", "length"] F_is_step :=
  def_okX (st := s_is_step) (N := N_is_step) (k := 2) fx.d_is_step ⟨rfl, rfl, rfl, by decide +kernel, rfl, by decide +kernel, by decide +kernel⟩ (fun f fd D => D.bindsN fun _ _ _ _ _ _ us hl => match us, hl with | [_, _], _ => rfl) len_is_step
    fun cdv A outer s H E f B tk => ⟨w_is_step, (jss_cons (js_if (jt_bool (jw_or (jt_not (jt_val (je_isi isT_tuple fx.b_isinstance fx.b_tuple (by decide +kernel) (je_var 0)))) (jw_or1 (jtx_cmp as_ne (opD_ne B.u64) (je_b1 (cb_len) fx.b_len (by decide +kernel) (je_b (je_var 0))) je_int rfl)))) (jss_one (js_ret je_bl)) jss_nil) (jss_cons (js_if (jt_bool (jw_or (jt_not (jt_val (jx_b1 as_all (cb_all B.calm) fx.b_all (by decide +kernel) (je_b (jf_e (jf_comp [("index", 2)] B (ji_seq (je_slice (je_var 0) jo_none (jo_some je_int))) (blkOk_by (by kernel_rfl)) (fun s H C cl fp => (jg_name 2 B.nd)) (fun s H C cl fp B => jts_nil) (fun s H C cl fp B => (je_call B (ok_is_from fx) (ja_cons (je_var 2) (ja_cons je_int (ja_cons (je_bin opD_sub (je_var 1) je_int) ja_nil))))))))))) (jw_or1 (jtx_cmp as_eq (opD_eq B.u64) (jx_ix (je_var 0) je_int fun _ _ => rfl) (jx_ix (je_var 0) je_int fun _ _ => rfl) rfl)))) (jss_one (js_ret je_bl)) jss_nil) (jss_one (js_ret (je_call B (ok_is_from fx) (ja_cons (jx_ix (je_var 0) je_int fun _ _ => rfl) (ja_cons je_int (ja_cons (je_gint rfl fx.c_MAX_NUMBER) ja_nil)))))))), pure_is_step⟩
theorem ok_are_steps (fx : Fx P w K mg base T) : DefOk P w K mg base T "are_steps" 4 ["value", "length"] F_are_steps :=
  def_okX (st := s_are_steps) (N := N_are_steps) (k := 3) fx.d_are_steps ⟨rfl, rfl, rfl, by decide +kernel, rfl, by decide +kernel, by decide +kernel⟩ (fun f fd D => D.bindsN fun _ _ _ _ _ _ us hl => match us, hl with | [_, _], _ => rfl) len_are_steps
    fun cdv A outer s H E f B tk => ⟨w_are_steps, (jss_one (js_ret (je_and (je_isi isT_tuple fx.b_isinstance fx.b_tuple (by decide +kernel) (je_var 0)) (je_one (jx_b1 as_all (cb_all B.calm) fx.b_all (by decide +kernel) (je_b (jf_e (jf_comp [("step", 2)] B (ji_seq (je_var 0)) (blkOk_by (by kernel_rfl)) (fun s H C cl fp => (jg_name 2 B.nd)) (fun s H C cl fp B => jts_nil) (fun s H C cl fp B => (je_call B (ok_is_step fx) (ja_cons (je_var 2) (ja_cons (je_var 1) ja_nil)))))))))))), pure_are_steps⟩
theorem ok_units (fx : Fx P w K mg base T) : DefOk P w K mg base T "units" 5 ["steps"] F_units :=
  def_okX (st := s_units) (N := N_units) (k := 4) fx.d_units ⟨rfl, rfl, rfl, by decide +kernel, rfl, by decide +kernel, by decide +kernel⟩ (fun f fd D => D.bindsN fun _ _ _ _ _ _ us hl => match us, hl with | [_], _ => rfl) len_units
    fun cdv A outer s H E f B tk => ⟨w_units, (jss_cons (js_if (jt_not (jt_val (je_call B (ok_are_steps fx) (ja_cons (je_var 0) (ja_cons (je_gint rfl fx.c_MAX_LENGTH) ja_nil))))) (jss_one (js_raise B tk fx.xc_InvalidOperation)) jss_nil) (jss_one (js_ret (jx_b1 as_sum (cb_sum B.calm) fx.b_sum (by decide +kernel) (je_b (jf_e (jf_comp [("step", 1)] B (ji_seq (je_var 0)) (blkOk_by (by kernel_rfl)) (fun s H C cl fp => (jg_name 1 B.nd)) (fun s H C cl fp B => jts_nil) (fun s H C cl fp B => (jx_ix (je_var 1) je_int fun _ _ => rfl))))))))), pure_units⟩
theorem ok_L_ladle (fx : Fx P w K mg base T) : DefOk P w K mg base T "_law_ladle" 1 ["_law_bowl_here", "_law_size"] F_L_ladle :=
  def_okX (st := s_L_ladle) (N := N_L_ladle) (k := 0) fx.d_L_ladle ⟨rfl, rfl, rfl, by decide +kernel, rfl, by decide +kernel, by decide +kernel⟩ (fun f fd D => D.bindsN fun _ _ _ _ _ _ us hl => match us, hl with | [_, _], _ => rfl) len_L_ladle
    fun cdv A outer s H E f B tk => ⟨w_L_ladle, (jss_cons (js_if (jt_cmp opD_gt (je_boxGet (je_var 0) je_int fun _ _ => rfl) je_int rfl) (jss_cons (js_set 4 B (jx_bin as_mod opD_mod (je_t1 cb_int fx.b_int (by decide +kernel) (je_b (je_boxGet (je_var 0) je_int fun _ _ => rfl))) (je_var 1))) (jss_cons (js_boxSet 0 (jx_bin as_div opD_div (je_boxGet (je_var 0) je_int fun _ _ => rfl) (je_var 1))) (jss_one (js_ret (je_var 4))))) jss_nil) (jss_cons (js_boxSet 0 (jx_bin as_add opD_add (je_boxGet (je_var 0) je_int fun _ _ => rfl) je_int)) (jss_cons (js_set 2 B (jx_bin as_mod opD_mod (je_t1 cb_int fx.b_int (by decide +kernel) (je_b (jx_bin as_add opD_add (je_boxGet (je_var 0) je_int fun _ _ => rfl) (jx_bin as_mul opD_mul je_int (je_boxGet (je_var 0) je_int fun _ _ => rfl))))) je_int)) (jss_cons (js_set 3 B (jx_bin as_add opD_add (jx_bin as_mul opD_mul (jx_bin as_mod opD_mod (je_t1 cb_int fx.b_int (by decide +kernel) (je_b (jx_bin as_mul opD_mul (je_var 2) (je_var 2)))) je_int) (je_var 2)) (jx_bin as_mul opD_mul je_int (je_boxGet (je_var 0) je_int fun _ _ => rfl)))) (jss_one (js_ret (jx_bin as_mod opD_mod (je_t1 cb_int fx.b_int (by decide +kernel) (je_b (jx_bin as_div opD_div (jx_bin as_mod opD_mod (je_t1 cb_int fx.b_int (by decide +kernel) (je_b (je_var 3))) je_int) je_int))) (je_var 1)))))))), pure_L_ladle⟩
theorem ok_L_dealt (fx : Fx P w K mg base T) : DefOk P w K mg base T "_law_dealt" 2 ["_law_bowl_here", "_law_total", "_law_length"] F_L_dealt :=
  def_okX (st := s_L_dealt) (N := N_L_dealt) (k := 1) fx.d_L_dealt ⟨rfl, rfl, rfl, by decide +kernel, rfl, by decide +kernel, by decide +kernel⟩ (fun f fd D => D.bindsN fun _ _ _ _ _ _ us hl => match us, hl with | [_, _, _], _ => rfl) len_L_dealt
    fun cdv A outer s H E f B tk => ⟨w_L_dealt, (jss_cons (js_setOwn 3 B (jf_lst ja_nil)) (jss_cons (js_for B (us := [4]) (ji_range1 rfl fx.b_range (je_bin opD_sub (je_var 2) je_int)) (jg_name 4 B.nd) (jss_cons (js_set 6 B (je_call B (ok_L_ladle fx) (ja_cons (je_var 0) (ja_cons je_int ja_nil)))) (jss_one (js_expr (je_append 3 (je_bN (cn_min2 B.calm) fx.b_min (by decide +kernel) (ja_cons (je_var 1) (ja_cons (je_bN (cn_max2 B.calm) fx.b_max (by decide +kernel) (ja_cons je_int (ja_cons (je_bin opD_sub (jx_bin as_add opD_add (jx_bin as_div opD_div (jx_bin as_mul opD_mul (je_var 1) (je_var 6)) je_int) (je_call B (ok_L_ladle fx) (ja_cons (je_var 0) (ja_cons je_int ja_nil)))) je_int) ja_nil))) ja_nil)))))))) (jss_cons (js_set 5 B (jx_bin as_add opD_add (jx_bin as_add opD_add (jf_e (jf_lst (ja_cons je_int ja_nil))) (jf_e (jf_sorted B fx.b_sorted (jb_own 3)))) (jf_e (jf_lst (ja_cons (je_var 1) ja_nil))))) (jss_one (js_ret (je_t1 cb_tuple fx.b_tuple (by decide +kernel) (je_b (jf_e (jf_comp [("_law_first", 7), ("_law_later", 8)] B (ji_zip rfl fx.b_zip (je_var 5) (je_slice (je_var 5) (jo_some je_int) jo_none)) (blkOk_by (by kernel_rfl)) (fun s H C cl fp => (jg_tup B.calm (jgs_cons (jg_name 7 B.nd) (jgs_cons (jg_name 8 B.nd) jgs_nil)))) (fun s H C cl fp B => jts_nil) (fun s H C cl fp B => (je_bin opD_sub (je_var 8) (je_var 7)))))))))))), pure_L_dealt⟩
theorem ok_L_pick (fx : Fx P w K mg base T) : DefOk P w K mg base T "_law_pick" 2 ["_law_bowl_here", "_law_items"] F_L_pick :=
  def_okX (st := s_L_pick) (N := N_L_pick) (k := 1) fx.d_L_pick ⟨rfl, rfl, rfl, by decide +kernel, rfl, by decide +kernel, by decide +kernel⟩ (fun f fd D => D.bindsN fun _ _ _ _ _ _ us hl => match us, hl with | [_, _], _ => rfl) len_L_pick
    fun cdv A outer s H E f B tk => ⟨w_L_pick, (jss_one (js_ret (jx_ix (je_var 1) (je_call B (ok_L_ladle fx) (ja_cons (je_var 0) (ja_cons (je_b1 (cb_len) fx.b_len (by decide +kernel) (je_b (je_var 1))) ja_nil))) fun _ _ => rfl))), pure_L_pick⟩
theorem ok_L_great (fx : Fx P w K mg base T) : DefOk P w K mg base T "_law_great" 3 ["_law_bowl_here"] F_L_great :=
  def_okX (st := s_L_great) (N := N_L_great) (k := 2) fx.d_L_great ⟨rfl, rfl, rfl, by decide +kernel, rfl, by decide +kernel, by decide +kernel⟩ (fun f fd D => D.bindsN fun _ _ _ _ _ _ us hl => match us, hl with | [_], _ => rfl) len_L_great
    fun cdv A outer s H E f B tk => ⟨w_L_great, (jss_cons (js_parM2 1 2 B (jm_e (jf_e (jf_comp [("_law_turn", 3)] B (ji_range1 rfl fx.b_range je_int) (blkOk_by (by kernel_rfl)) (fun s H C cl fp => (jg_name 3 B.nd)) (fun s H C cl fp B => jts_nil) (fun s H C cl fp B => (je_call B (ok_L_ladle fx) (ja_cons (je_var 0) (ja_cons (jx_bin as_pow opD_pow je_int je_int) ja_nil)))))) (jm_e (jf_e (jf_lst (ja_cons (jx_bin as_pow opD_pow je_int je_int) (ja_cons je_int (ja_cons (jx_bin as_pow opD_pow je_int je_int) (ja_cons (jx_bin as_pow opD_pow je_int je_int) ja_nil)))))) jm_nil))) (jss_one (js_ret (jx_bin as_mod opD_mod (je_t1 cb_int fx.b_int (by decide +kernel) (je_b (jx_bin as_add opD_add (jx_bin as_add opD_add (jx_bin as_mul opD_mul (jx_ix (je_var 1) je_int fun _ _ => rfl) (jx_bin as_pow opD_pow je_int je_int)) (jx_bin as_mul opD_mul (jx_ix (je_var 1) je_int fun _ _ => rfl) (jx_bin as_pow opD_pow je_int je_int))) (jx_ix (je_var 1) je_int fun _ _ => rfl)))) (je_call B (ok_L_pick fx) (ja_cons (je_var 0) (ja_cons (je_var 2) ja_nil))))))), pure_L_great⟩
theorem ok_L_drawn_row (fx : Fx P w K mg base T) : DefOk P w K mg base T "_law_drawn_row" 4 ["_law_bowl_here", "_law_most"] F_L_drawn_row :=
  def_okX (st := s_L_drawn_row) (N := N_L_drawn_row) (k := 3) fx.d_L_drawn_row ⟨rfl, rfl, rfl, by decide +kernel, rfl, by decide +kernel, by decide +kernel⟩ (fun f fd D => D.bindsN fun _ _ _ _ _ _ us hl => match us, hl with | [_, _], _ => rfl) len_L_drawn_row
    fun cdv A outer s H E f B tk => ⟨w_L_drawn_row, (jss_cons (js_asg (us := [2, 3]) (je_tup (ja_cons (jx_bin as_add opD_add je_int (je_call B (ok_L_ladle fx) (ja_cons (je_var 0) (ja_cons (je_var 1) ja_nil)))) (ja_cons (je_call B (ok_L_ladle fx) (ja_cons (je_var 0) (ja_cons je_int ja_nil))) ja_nil))) (jg_tup B.calm (jgs_cons (jg_name 2 B.nd) (jgs_cons (jg_name 3 B.nd) jgs_nil)))) (jss_cons (js_if (jtx_cmp as_eq (opD_eq B.u64) (je_var 3) je_int rfl) (jss_one (js_ret (je_t1 cb_tuple fx.b_tuple (by decide +kernel) (je_b (jf_e (jf_comp [("_law_turn", 4)] B (ji_range1 rfl fx.b_range (je_var 2)) (blkOk_by (by kernel_rfl)) (fun s H C cl fp => (jg_name 4 B.nd)) (fun s H C cl fp B => jts_nil) (fun s H C cl fp B => (je_call B (ok_L_great fx) (ja_cons (je_var 0) ja_nil))))))))) jss_nil) (jss_cons (js_if (jtx_cmp as_eq (opD_eq B.u64) (je_var 3) je_int rfl) (jss_one (js_ret (je_call B (ok_L_dealt fx) (ja_cons (je_var 0) (ja_cons (je_call B (ok_L_great fx) (ja_cons (je_var 0) ja_nil)) (ja_cons (je_var 2) ja_nil)))))) jss_nil) (jss_one (js_ret (je_t1 cb_tuple fx.b_tuple (by decide +kernel) (je_b (jf_e (jf_comp [("_law_turn", 4)] B (ji_range1 rfl fx.b_range (je_var 2)) (blkOk_by (by kernel_rfl)) (fun s H C cl fp => (jg_name 4 B.nd)) (fun s H C cl fp B => jts_nil) (fun s H C cl fp B => (je_call B (ok_L_ladle fx) (ja_cons (je_var 0) (ja_cons (jx_ix (jf_e (jf_lst (ja_cons je_int (ja_cons je_int ja_nil)))) (je_bin opD_sub (je_var 3) je_int) fun _ _ => rfl) ja_nil))))))))))))), pure_L_drawn_row⟩
theorem ok_L_moved (fx : Fx P w K mg base T) : DefOk P w K mg base T "_law_moved" 1 ["_law_row", "_law_source", "_law_goal", "_law_many"] F_L_moved :=
  def_okX (st := s_L_moved) (N := N_L_moved) (k := 0) fx.d_L_moved ⟨rfl, rfl, rfl, by decide +kernel, rfl, by decide +kernel, by decide +kernel⟩ (fun f fd D => D.bindsN fun _ _ _ _ _ _ us hl => match us, hl with | [_, _, _, _], _ => rfl) len_L_moved
    fun cdv A outer s H E f B tk => ⟨w_L_moved, (jss_cons (js_setOwn 4 B (jf_t1 cf_list fx.b_list (by decide +kernel) (je_b (je_var 0)))) (jss_cons (js_setIx 4 (je_var 1) (je_bin opD_sub (je_ixOwn 4 (je_var 1) fun _ _ => rfl) (je_var 3))) (jss_cons (js_setIx 4 (je_var 2) (jx_bin as_add opD_add (je_ixOwn 4 (je_var 2) fun _ _ => rfl) (je_var 3))) (jss_one (js_ret (je_t1 cb_tuple fx.b_tuple (by decide +kernel) (jb_own 4))))))), pure_L_moved⟩
theorem ok_L_mixed (fx : Fx P w K mg base T) : DefOk P w K mg base T "_law_mixed" 2 ["_law_bowl_here", "_law_items"] F_L_mixed :=
  def_okX (st := s_L_mixed) (N := N_L_mixed) (k := 1) fx.d_L_mixed ⟨rfl, rfl, rfl, by decide +kernel, rfl, by decide +kernel, by decide +kernel⟩ (fun f fd D => D.bindsN fun _ _ _ _ _ _ us hl => match us, hl with | [_, _], _ => rfl) len_L_mixed
    fun cdv A outer s H E f B tk => ⟨w_L_mixed, (jss_cons (js_setOwn 2 B (jf_t1 cf_list fx.b_list (by decide +kernel) (je_b (je_var 1)))) (jss_one (js_ret (jf_e (jf_comp [("_law_turn", 3)] B (ji_range1 rfl fx.b_range (je_b1 (cb_len) fx.b_len (by decide +kernel) (je_b (je_var 1)))) (blkOk_by (by kernel_rfl)) (fun s H C cl fp => (jg_name 3 B.nd)) (fun s H C cl fp B => jts_nil) (fun s H C cl fp B => (je_popAt 2 (je_call B (ok_L_ladle fx) (ja_cons (je_var 0) (ja_cons (je_b1 (cb_len) fx.b_len (by decide +kernel) (jb_own 2)) ja_nil)))))))))), pure_L_mixed⟩
theorem ok_L_near_row (fx : Fx P w K mg base T) : DefOk P w K mg base T "_law_near_row" 3 ["_law_bowl_here", "_law_row"] F_L_near_row :=
  def_okX (st := s_L_near_row) (N := N_L_near_row) (k := 2) fx.d_L_near_row ⟨rfl, rfl, rfl, by decide +kernel, rfl, by decide +kernel, by decide +kernel⟩ (fun f fd D => D.bindsN fun _ _ _ _ _ _ us hl => match us, hl with | [_, _], _ => rfl) len_L_near_row
    fun cdv A outer s H E f B tk => ⟨w_L_near_row, (jss_cons (js_parM2 3 4 B (jm_e (je_call B (ok_L_ladle fx) (ja_cons (je_var 0) (ja_cons je_int ja_nil))) (jm_e (je_var 1) jm_nil))) (jss_cons (js_if (jtx_cmp as_eq (opD_eq B.u64) (je_var 3) je_int rfl) (jss_one (js_ret (je_call B (ok_L_dealt fx) (ja_cons (je_var 0) (ja_cons (jx_b1 as_sum (cb_sum B.calm) fx.b_sum (by decide +kernel) (je_b (je_var 1))) (ja_cons (je_b1 (cb_len) fx.b_len (by decide +kernel) (je_b (je_var 1))) ja_nil)))))) jss_nil) (jss_cons (js_for B (us := [2]) (ji_range1 rfl fx.b_range (je_call B (ok_L_pick fx) (ja_cons (je_var 0) (ja_cons (jf_e (jf_lst (ja_cons je_int (ja_cons je_int (ja_cons je_int (ja_cons je_int ja_nil)))))) ja_nil)))) (jg_name 2 B.nd) (jss_cons (js_parM2 6 7 B (jm_e (je_call B (ok_L_ladle fx) (ja_cons (je_var 0) (ja_cons (je_b1 (cb_len) fx.b_len (by decide +kernel) (je_b (je_var 1))) ja_nil))) (jm_e (je_call B (ok_L_ladle fx) (ja_cons (je_var 0) (ja_cons (je_b1 (cb_len) fx.b_len (by decide +kernel) (je_b (je_var 1))) ja_nil))) jm_nil))) (jss_cons (js_set 5 B (je_if (jtx_cmp as_eq (opD_eq B.u64) (je_var 3) je_int rfl) (jx_bin as_div opD_div (jx_bin as_mul opD_mul (jx_ix (je_var 4) (je_var 6) fun _ _ => rfl) (je_call B (ok_L_ladle fx) (ja_cons (je_var 0) (ja_cons je_int ja_nil)))) je_int) (je_bN (cn_min2 B.calm) fx.b_min (by decide +kernel) (ja_cons je_int (ja_cons (jx_ix (je_var 4) (je_var 6) fun _ _ => rfl) ja_nil))))) (jss_one (js_set 4 B (je_call B (ok_L_moved fx) (ja_cons (je_var 4) (ja_cons (je_var 6) (ja_cons (je_var 7) (ja_cons (je_var 5) ja_nil)))))))))) (jss_one (js_ret (je_if (jtx_cmp as_eq (opD_eq B.u64) (je_var 3) je_int rfl) (je_t1 cb_tuple fx.b_tuple (by decide +kernel) (je_b (je_call B (ok_L_mixed fx) (ja_cons (je_var 0) (ja_cons (je_var 4) ja_nil))))) (je_var 4))))))), pure_L_near_row⟩
theorem ok_arranged (fx : Fx P w K mg base T) : DefOk P w K mg base T "arranged" 7 ["row", "like"] F_arranged :=
  def_okC (st := s_arranged) (N := N_arranged) (k := 6) fx.d_arranged fx.gx_arranged ⟨rfl, rfl, rfl, by decide +kernel, rfl, by decide +kernel, by decide +kernel⟩ (fun f fd D => D.bindsN fun _ _ _ _ _ _ us hl => match us, hl with | [_, _], _ => rfl) len_arranged
    fun A outer s H E B tk => ⟨w_arranged, (jss_cons (js_expr (je_call B (ok_require_rows fx) (ja_cons (je_var 0) (ja_cons (je_var 1) ja_nil)))) (jss_cons (js_if (jtx_cmp as_ne (opD_ne B.u64) (je_b1 (cb_len) fx.b_len (by decide +kernel) (je_b (je_var 0))) (je_b1 (cb_len) fx.b_len (by decide +kernel) (je_b (je_var 1))) rfl) (jss_one (js_raise B tk fx.xc_InvalidOperation)) jss_nil) (jss_cons (js_set 2 B (jf_e (jf_sortKey B fx.lm_arranged fx.b_sorted fx.b_range (je_b1 (cb_len) fx.b_len (by decide +kernel) (je_b (je_var 1))) (kscope_by (by kernel_rfl)) (.cons (.neg (j := 1) rfl rfl rfl rfl) (fun _ => rfl) (.cons .self (fun _ => rfl) .nil))))) (jss_cons (js_set 3 B (je_dictZip B fx.b_dict (jz_a fx.b_zip (ja_cons (je_var 2) (ja_cons (je_call B (ok_falling fx) (ja_cons (je_var 0) ja_nil)) ja_nil))))) (jss_one (js_ret (je_t1 cb_tuple fx.b_tuple (by decide +kernel) (je_b (jf_e (jf_comp [("index", 4)] B (ji_range1 rfl fx.b_range (je_b1 (cb_len) fx.b_len (by decide +kernel) (je_b (je_var 1)))) (blkOk_by (by kernel_rfl)) (fun s H C cl fp => (jg_name 4 B.nd)) (fun s H C cl fp B => jts_nil) (fun s H C cl fp B => (je_dget B (je_var 3) (je_var 4) fun _ _ => rfl)))))))))))), pure_arranged⟩
theorem ok_L_odd_row (fx : Fx P w K mg base T) : DefOk P w K mg base T "_law_odd_row" 3 ["_law_bowl_here"] F_L_odd_row :=
  def_okX (st := s_L_odd_row) (N := N_L_odd_row) (k := 2) fx.d_L_odd_row ⟨rfl, rfl, rfl, by decide +kernel, rfl, by decide +kernel, by decide +kernel⟩ (fun f fd D => D.bindsN fun _ _ _ _ _ _ us hl => match us, hl with | [_], _ => rfl) len_L_odd_row
    fun cdv A outer s H E f B tk => ⟨w_L_odd_row, (jss_cons (js_set 1 B (jf_e (jf_lst (ja_cons je_non (ja_cons je_int (ja_cons (je_tup ja_nil) (ja_cons (jf_e (jf_lst (ja_cons je_int (ja_cons je_int ja_nil)))) (ja_cons (je_tup (ja_cons je_int (ja_cons (je_neg je_int) ja_nil))) (ja_cons (je_tup (ja_cons je_bl (ja_cons je_int ja_nil))) (ja_cons (je_tup (ja_cons je_int (ja_cons je_non ja_nil))) (ja_cons (je_tup (ja_cons je_str ja_nil)) (ja_cons (je_tup (ja_cons je_int (ja_cons (je_tup (ja_cons je_int ja_nil)) ja_nil))) (ja_cons je_str (ja_cons je_dict0 (ja_cons (je_tup (ja_cons (jx_bin as_pow opD_pow je_int je_int) ja_nil)) (ja_cons (jx_bin as_mul opD_mul (je_tup (ja_cons je_int ja_nil)) je_int) ja_nil)))))))))))))))) (jss_one (js_ret (je_call B (ok_L_pick fx) (ja_cons (je_var 0) (ja_cons (jx_bin as_add opD_add (je_var 1) (jf_e (jf_lst (ja_cons je_dict1 (ja_cons (je_tup (ja_cons (je_tup (ja_cons je_int (ja_cons je_int ja_nil))) ja_nil)) (ja_cons (je_tup (ja_cons je_int (ja_cons je_int (ja_cons (jx_bin as_pow opD_pow je_int je_int) ja_nil)))) (ja_cons je_bl (ja_cons (jf_e (jf_lst (ja_cons (je_tup ja_nil) ja_nil))) (ja_cons (je_tup (ja_cons je_int (ja_cons je_bl ja_nil))) ja_nil))))))))) ja_nil)))))), pure_L_odd_row⟩
theorem ok_L_down (fx : Fx P w K mg base T) : DefOk P w K mg base T "_law_down" 1 ["_law_row"] F_L_down :=
  def_okX (st := s_L_down) (N := N_L_down) (k := 0) fx.d_L_down ⟨rfl, rfl, rfl, by decide +kernel, rfl, by decide +kernel, by decide +kernel⟩ (fun f fd D => D.bindsN fun _ _ _ _ _ _ us hl => match us, hl with | [_], _ => rfl) len_L_down
    fun cdv A outer s H E f B tk => ⟨w_L_down, (jss_one (js_ret (je_t1 cb_tuple fx.b_tuple (by decide +kernel) (je_b (jf_e (jf_rev (je_b (jf_e (jf_sorted B fx.b_sorted (je_b (je_var 0))))))))))), pure_L_down⟩
theorem ok_L_heads (fx : Fx P w K mg base T) : DefOk P w K mg base T "_law_heads" 2 ["_law_row"] F_L_heads :=
  def_okX (st := s_L_heads) (N := N_L_heads) (k := 1) fx.d_L_heads ⟨rfl, rfl, rfl, by decide +kernel, rfl, by decide +kernel, by decide +kernel⟩ (fun f fd D => D.bindsN fun _ _ _ _ _ _ us hl => match us, hl with | [_], _ => rfl) len_L_heads
    fun cdv A outer s H E f B tk => ⟨w_L_heads, (jss_cons (js_parM2 2 3 B (jm_f (jf_lst ja_nil) (jm_e je_int jm_nil))) (jss_cons (js_for B (us := [1]) (ji_seq (je_call B (ok_L_down fx) (ja_cons (je_var 0) ja_nil))) (jg_name 1 B.nd) (jss_cons (js_set 3 B (jx_bin as_add opD_add (je_var 3) (je_var 1))) (jss_one (js_expr (je_append 2 (je_var 3)))))) (jss_one (js_ret (je_frz 2))))), pure_L_heads⟩
theorem ok_L_under (fx : Fx P w K mg base T) : DefOk P w K mg base T "_law_under" 3 ["_law_one", "_law_other"] F_L_under :=
  def_okX (st := s_L_under) (N := N_L_under) (k := 2) fx.d_L_under ⟨rfl, rfl, rfl, by decide +kernel, rfl, by decide +kernel, by decide +kernel⟩ (fun f fd D => D.bindsN fun _ _ _ _ _ _ us hl => match us, hl with | [_, _], _ => rfl) len_L_under
    fun cdv A outer s H E f B tk => ⟨w_L_under, (jss_cons (js_if (jt_bool (jw_or (jtx_cmp as_ne (opD_ne B.u64) (je_b1 (cb_len) fx.b_len (by decide +kernel) (je_b (je_var 0))) (je_b1 (cb_len) fx.b_len (by decide +kernel) (je_b (je_var 1))) rfl) (jw_or1 (jtx_cmp as_ne (opD_ne B.u64) (jx_b1 as_sum (cb_sum B.calm) fx.b_sum (by decide +kernel) (je_b (je_var 0))) (jx_b1 as_sum (cb_sum B.calm) fx.b_sum (by decide +kernel) (je_b (je_var 1))) rfl)))) (jss_one (js_ret je_bl)) jss_nil) (jss_one (js_ret (jx_cmp as_eq (opD_eq B.u64) (jf_e (jf_comp [("_law_first", 2), ("_law_second", 3)] B (ji_zip rfl fx.b_zip (je_call B (ok_L_heads fx) (ja_cons (je_var 0) ja_nil)) (je_call B (ok_L_heads fx) (ja_cons (je_var 1) ja_nil))) (blkOk_by (by kernel_rfl)) (fun s H C cl fp => (jg_tup B.calm (jgs_cons (jg_name 2 B.nd) (jgs_cons (jg_name 3 B.nd) jgs_nil)))) (fun s H C cl fp B => (jts_one (jt_cmp opD_gt (je_var 2) (je_var 3) rfl))) (fun s H C cl fp B => je_int))) (jf_e (jf_lst ja_nil)) rfl)))), pure_L_under⟩
theorem ok_L_is_way (fx : Fx P w K mg base T) : DefOk P w K mg base T "_law_is_way" 4 ["_law_row", "_law_lower", "_law_steps"] F_L_is_way :=
  def_okX (st := s_L_is_way) (N := N_L_is_way) (k := 3) fx.d_L_is_way ⟨rfl, rfl, rfl, by decide +kernel, rfl, by decide +kernel, by decide +kernel⟩ (fun f fd D => D.bindsN fun _ _ _ _ _ _ us hl => match us, hl with | [_, _, _], _ => rfl) len_L_is_way
    fun cdv A outer s H E f B tk => ⟨w_L_is_way, (jss_cons (js_set 3 B (je_var 0)) (jss_cons (js_for B (us := [4]) (ji_seq (je_var 2)) (jg_name 4 B.nd) (jss_cons (js_if (jt_bool (jw_or (jtx_cmp as_ne (opD_ne B.u64) (je_b1 (cb_len) fx.b_len (by decide +kernel) (je_b (je_var 4))) je_int rfl) (jw_or (jt_not (jt_chain opD_le opD_lt je_int (jx_ix (je_var 4) je_int fun _ _ => rfl) (je_b1 (cb_len) fx.b_len (by decide +kernel) (je_b (je_var 0))))) (jw_or1 (jt_not (jt_chain opD_le opD_lt je_int (jx_ix (je_var 4) je_int fun _ _ => rfl) (je_b1 (cb_len) fx.b_len (by decide +kernel) (je_b (je_var 0))))))))) (jss_one (js_ret je_bl)) jss_nil) (jss_cons (js_if (jt_bool (jw_or (jt_cmp opD_lt (jx_ix (je_var 4) je_int fun _ _ => rfl) je_int rfl) (jw_or1 (jt_cmp opD_lt (jx_ix (je_var 3) (jx_ix (je_var 4) je_int fun _ _ => rfl) fun _ _ => rfl) (jx_bin as_add opD_add (jx_ix (je_var 3) (jx_ix (je_var 4) je_int fun _ _ => rfl) fun _ _ => rfl) (jx_bin as_mul opD_mul je_int (jx_ix (je_var 4) je_int fun _ _ => rfl))) rfl)))) (jss_one (js_ret je_bl)) jss_nil) (jss_cons (js_set 5 B (je_call B (ok_L_moved fx) (ja_cons (je_var 3) (ja_cons (jx_ix (je_var 4) je_int fun _ _ => rfl) (ja_cons (jx_ix (je_var 4) je_int fun _ _ => rfl) (ja_cons (jx_ix (je_var 4) je_int fun _ _ => rfl) ja_nil)))))) (jss_cons (js_if (jt_bool (jw_or (jt_not (jt_val (je_call B (ok_L_under fx) (ja_cons (je_var 5) (ja_cons (je_var 3) ja_nil))))) (jw_or1 (jtx_cmp as_eq (opD_eq B.u64) (je_call B (ok_L_down fx) (ja_cons (je_var 5) ja_nil)) (je_call B (ok_L_down fx) (ja_cons (je_var 3) ja_nil)) rfl)))) (jss_one (js_ret je_bl)) jss_nil) (jss_one (js_set 3 B (je_var 5)))))))) (jss_one (js_ret (jx_cmp as_eq (opD_eq B.u64) (je_var 3) (je_var 1) rfl))))), pure_L_is_way⟩
theorem ok_behind (fx : Fx P w K mg base T) : DefOk P w K mg base T "behind" 1 ["row", "steps"] F_behind :=
  def_okX (st := s_behind) (N := N_behind) (k := 0) fx.d_behind ⟨rfl, rfl, rfl, by decide +kernel, rfl, by decide +kernel, by decide +kernel⟩ (fun f fd D => D.bindsN fun _ _ _ _ _ _ us hl => match us, hl with | [_, _], _ => rfl) len_behind
    fun cdv A outer s H E f B tk => ⟨w_behind, (jss_cons (js_setOwn 2 B (jf_t1 cf_list fx.b_list (by decide +kernel) (je_b (je_var 0)))) (jss_cons (js_for B (us := [3, 4, 5]) (ji_seq (je_var 1)) (jg_tup B.calm (jgs_cons (jg_name 3 B.nd) (jgs_cons (jg_name 4 B.nd) (jgs_cons (jg_name 5 B.nd) jgs_nil)))) (jss_cons (js_if (jt_cmp opD_lt (je_ixOwn 2 (je_var 3) fun _ _ => rfl) (jx_bin as_add opD_add (je_ixOwn 2 (je_var 4) fun _ _ => rfl) (jx_bin as_mul opD_mul je_int (je_var 5))) rfl) (jss_one (js_ret je_non)) jss_nil) (jss_cons (js_augIx 2 (je_var 3) opI_sub (je_var 5)) (jss_one (js_augIx 2 (je_var 4) opI_add (je_var 5)))))) (jss_one (js_ret (je_t1 cb_tuple fx.b_tuple (by decide +kernel) (jb_own 2)))))), pure_behind⟩
theorem ok_is_road (fx : Fx P w K mg base T) : DefOk P w K mg base T "is_road" 7 ["row", "lower", "value"] F_is_road :=
  def_okX (st := s_is_road) (N := N_is_road) (k := 6) fx.d_is_road ⟨rfl, rfl, rfl, by decide +kernel, rfl, by decide +kernel, by decide +kernel⟩ (fun f fd D => D.bindsN fun _ _ _ _ _ _ us hl => match us, hl with | [_, _, _], _ => rfl) len_is_road
    fun cdv A outer s H E f B tk => ⟨w_is_road, (jss_cons (js_expr (je_call B (ok_require_rows fx) (ja_cons (je_var 0) (ja_cons (je_var 1) ja_nil)))) (jss_one (js_ret (je_and (je_call B (ok_are_steps fx) (ja_cons (je_var 2) (ja_cons (je_b1 (cb_len) fx.b_len (by decide +kernel) (je_b (je_var 0))) ja_nil))) (je_one (jx_cmp as_eq (opD_eq B.u64) (je_call B (ok_behind fx) (ja_cons (je_var 0) (ja_cons (je_var 2) ja_nil))) (je_var 1) rfl)))))), pure_is_road⟩
theorem ok_after (fx : Fx P w K mg base T) : DefOk P w K mg base T "after" 6 ["row", "steps"] F_after :=
  def_okX (st := s_after) (N := N_after) (k := 5) fx.d_after ⟨rfl, rfl, rfl, by decide +kernel, rfl, by decide +kernel, by decide +kernel⟩ (fun f fd D => D.bindsN fun _ _ _ _ _ _ us hl => match us, hl with | [_, _], _ => rfl) len_after
    fun cdv A outer s H E f B tk => ⟨w_after, (jss_cons (js_expr (je_call B (ok_require_row fx) (ja_cons (je_var 0) ja_nil))) (jss_cons (js_set 2 B (je_if (jt_val (je_call B (ok_are_steps fx) (ja_cons (je_var 1) (ja_cons (je_b1 (cb_len) fx.b_len (by decide +kernel) (je_b (je_var 0))) ja_nil)))) (je_call B (ok_behind fx) (ja_cons (je_var 0) (ja_cons (je_var 1) ja_nil))) je_non)) (jss_cons (js_if (jt_cmp opD_is (je_var 2) je_non rfl) (jss_one (js_raise B tk fx.xc_InvalidOperation)) jss_nil) (jss_one (js_ret (je_var 2)))))), pure_after⟩
theorem ok_L_half (fx : Fx P w K mg base T) : DefOk P w K mg base T "_law_half" 2 ["_law_row", "_law_lower"] F_L_half :=
  def_okX (st := s_L_half) (N := N_L_half) (k := 1) fx.d_L_half ⟨rfl, rfl, rfl, by decide +kernel, rfl, by decide +kernel, by decide +kernel⟩ (fun f fd D => D.bindsN fun _ _ _ _ _ _ us hl => match us, hl with | [_, _], _ => rfl) len_L_half
    fun cdv A outer s H E f B tk => ⟨w_L_half, (jss_one (js_ret (jx_bin as_div opD_div (jx_b1 as_sum (cb_sum B.calm) fx.b_sum (by decide +kernel) (je_b (jf_e (jf_comp [("_law_first", 2), ("_law_second", 3)] B (ji_zip rfl fx.b_zip (je_call B (ok_L_down fx) (ja_cons (je_var 0) ja_nil)) (je_call B (ok_L_down fx) (ja_cons (je_var 1) ja_nil))) (blkOk_by (by kernel_rfl)) (fun s H C cl fp => (jg_tup B.calm (jgs_cons (jg_name 2 B.nd) (jgs_cons (jg_name 3 B.nd) jgs_nil)))) (fun s H C cl fp B => jts_nil) (fun s H C cl fp B => (je_bN cn_abs fx.b_abs (by decide +kernel) (ja_cons (je_bin opD_sub (je_var 2) (je_var 3)) ja_nil))))))) je_int))), pure_L_half⟩
theorem ok_L_road_right (fx : Fx P w K mg base T) : DefG P w K mg base T "_law_road_right" 10 ["_law_row", "_law_lower"] F_L_road_right :=
  defG_okX (st := s_L_road_right) (N := N_L_road_right) (k := 9) fx.d_L_road_right fx.gx_L_road_right ⟨rfl, rfl, rfl, by decide +kernel, rfl, by decide +kernel, by decide +kernel⟩ (fun f fd D => D.bindsN fun _ _ _ _ _ _ us hl => match us, hl with | [_, _], _ => rfl) len_L_road_right
    fun A outer s H E gd B tk => ⟨w_L_road_right, (jss_cons (js_set 2 B (je_outD (kb := 7) B (od_L_outcome fx) fx.lm_L_road_right fun A outer s H E f c B => (je_call B (ok_road fx) (ja_cons (je_var 0) (ja_cons (je_var 1) ja_nil))))) (jss_cons (js_if (jt_not (jt_val (je_call B (ok_L_under fx) (ja_cons (je_var 1) (ja_cons (je_var 0) ja_nil))))) (jss_one (js_ret (je_and (jx_cmp as_eq (opD_eq B.u64) (je_var 2) (jf_e (jf_lst (ja_cons je_str ja_nil))) rfl) (je_one (jx_cmp as_eq (opD_eq B.u64) (je_outD (kb := 7) B (od_L_outcome fx) fx.lm_L_road_right fun A outer s H E f c B => (je_call B (ok_fewest_units fx) (ja_cons (je_var 0) (ja_cons (je_var 1) ja_nil)))) (jf_e (jf_lst (ja_cons je_str ja_nil))) rfl))))) jss_nil) (jss_cons (js_if (jt_bool (jw_or (jt_not (jt_val (je_isi isT_tuple fx.b_isinstance fx.b_tuple (by decide +kernel) (je_var 2)))) (jw_or (jt_cmp opD_gt (je_b1 (cb_len) fx.b_len (by decide +kernel) (je_b (je_var 2))) (je_bin opD_sub (je_b1 (cb_len) fx.b_len (by decide +kernel) (je_b (je_var 0))) je_int) rfl) (jw_or1 (jt_not (jt_val (je_call B (ok_L_is_way fx) (ja_cons (je_var 0) (ja_cons (je_var 1) (ja_cons (je_var 2) ja_nil)))))))))) (jss_one (js_ret je_bl)) jss_nil) (jss_cons (js_if (jt_bool (jw_or (jt_cmp opD_isNot (je_call B (ok_is_road fx) (ja_cons (je_var 0) (ja_cons (je_var 1) (ja_cons (je_var 2) ja_nil)))) je_bl rfl) (jw_or1 (jtx_cmp as_ne (opD_ne B.u64) (je_call B (ok_after fx) (ja_cons (je_var 0) (ja_cons (je_var 2) ja_nil))) (je_var 1) rfl)))) (jss_one (js_ret je_bl)) jss_nil) (jss_one (js_ret (je_cmp opD_eqS (jx_b1 as_reprA (cb_reprA gd B.u64) fx.b_repr (by decide +kernel) (je_b (jf_e (jf_lst (ja_cons (je_call B (ok_units fx) (ja_cons (je_var 2) ja_nil)) (ja_cons (je_call B (ok_fewest_units fx) (ja_cons (je_var 0) (ja_cons (je_var 1) ja_nil))) ja_nil)))))) (jx_b1 as_reprA (cb_reprA gd B.u64) fx.b_repr (by decide +kernel) (je_b (jx_bin as_mul opD_mul (jf_e (jf_lst (ja_cons (je_call B (ok_L_half fx) (ja_cons (je_var 0) (ja_cons (je_var 1) ja_nil))) ja_nil))) je_int))) rfl))))))), pure_L_road_right⟩
theorem ok_is_arranged_alike (fx : Fx P w K mg base T) : DefOk P w K mg base T "is_arranged_alike" 7 ["one", "other"] F_is_arranged_alike :=
  def_okX (st := s_is_arranged_alike) (N := N_is_arranged_alike) (k := 6) fx.d_is_arranged_alike ⟨rfl, rfl, rfl, by decide +kernel, rfl, by decide +kernel, by decide +kernel⟩ (fun f fd D => D.bindsN fun _ _ _ _ _ _ us hl => match us, hl with | [_, _], _ => rfl) len_is_arranged_alike
    fun cdv A outer s H E f B tk => ⟨w_is_arranged_alike, (jss_cons (js_expr (je_call B (ok_require_rows fx) (ja_cons (je_var 0) (ja_cons (je_var 1) ja_nil)))) (jss_one (js_ret (je_and (jx_cmp as_eq (opD_eq B.u64) (je_b1 (cb_len) fx.b_len (by decide +kernel) (je_b (je_var 0))) (je_b1 (cb_len) fx.b_len (by decide +kernel) (je_b (je_var 1))) rfl) (je_one (je_call B (ok_are_arranged_alike fx) (ja_cons (je_var 0) (ja_cons (je_var 1) ja_nil)))))))), pure_is_arranged_alike⟩
theorem ok_L_right (fx : Fx P w K mg base T) : DefG P w K mg base T "_law_right" 11 ["_law_bowl_here"] F_L_right :=
  defG_okX (st := s_L_right) (N := N_L_right) (k := 10) fx.d_L_right fx.gx_L_right ⟨rfl, rfl, rfl, by decide +kernel, rfl, by decide +kernel, by decide +kernel⟩ (fun f fd D => D.bindsN fun _ _ _ _ _ _ us hl => match us, hl with | [_], _ => rfl) len_L_right
    fun A outer s H E gd B tk => ⟨w_L_right, (jss_cons (js_set 1 B (je_call B (ok_L_drawn_row fx) (ja_cons (je_var 0) (ja_cons je_int ja_nil)))) (jss_cons (js_set 2 B (je_call B (ok_L_near_row fx) (ja_cons (je_var 0) (ja_cons (je_var 1) ja_nil)))) (jss_cons (js_set 3 B (je_call B (ok_arranged fx) (ja_cons (je_var 2) (ja_cons (je_var 1) ja_nil)))) (jss_cons (js_if (jt_bool (jw_or (jt_not (jt_val (je_callG B gd (ok_L_road_right fx) (ja_cons (je_var 1) (ja_cons (je_var 3) ja_nil))))) (jw_or1 (jt_not (jt_val (je_callG B gd (ok_L_road_right fx) (ja_cons (je_call B (ok_arranged fx) (ja_cons (je_var 1) (ja_cons (je_var 2) ja_nil))) (ja_cons (je_var 2) ja_nil)))))))) (jss_one (js_ret je_bl)) jss_nil) (jss_cons (js_if (jt_bool (jw_and (jt_not (jt_val (je_call B (ok_is_arranged_alike fx) (ja_cons (je_var 1) (ja_cons (je_var 2) ja_nil))))) (jw_and1 (jtx_cmp as_ne (opD_ne B.u64) (je_outD (kb := 7) B (od_L_outcome fx) fx.lm_L_right fun A outer s H E f c B => (je_call B (ok_road fx) (ja_cons (je_var 1) (ja_cons (je_var 2) ja_nil)))) (jf_e (jf_lst (ja_cons je_str ja_nil))) rfl)))) (jss_one (js_ret je_bl)) jss_nil) (jss_cons (js_asg (us := [5, 6]) (je_tup (ja_cons (je_call B (ok_L_odd_row fx) (ja_cons (je_var 0) ja_nil)) (ja_cons (jx_bin as_add opD_add (je_slice (je_var 1) jo_none (jo_some (je_neg je_int))) (je_tup (ja_cons (jx_bin as_add opD_add (jx_ix (je_var 1) (je_neg je_int) fun _ _ => rfl) je_int) ja_nil))) ja_nil))) (jg_tup B.calm (jgs_cons (jg_name 5 B.nd) (jgs_cons (jg_name 6 B.nd) jgs_nil)))) (jss_cons (js_setOwn 4 B (jf_lst (ja_cons (je_outD (kb := 7) B (od_L_outcome fx) fx.lm_L_right fun A outer s H E f c B => (je_call B (ok_road fx) (ja_cons (je_var 5) (ja_cons (je_var 1) ja_nil)))) ja_nil))) (jss_cons (js_expr (je_append 4 (je_outD (kb := 7) B (od_L_outcome fx) fx.lm_L_right fun A outer s H E f c B => (je_call B (ok_road fx) (ja_cons (je_var 1) (ja_cons (je_var 5) ja_nil)))))) (jss_cons (js_expr (je_append 4 (je_outD (kb := 7) B (od_L_outcome fx) fx.lm_L_right fun A outer s H E f c B => (je_call B (ok_fewest_units fx) (ja_cons (je_var 5) (ja_cons (je_var 6) ja_nil)))))) (jss_cons (js_expr (je_append 4 (je_outD (kb := 7) B (od_L_outcome fx) fx.lm_L_right fun A outer s H E f c B => (je_call B (ok_road fx) (ja_cons (je_var 1) (ja_cons (je_var 6) ja_nil)))))) (jss_cons (js_expr (je_append 4 (je_outD (kb := 7) B (od_L_outcome fx) fx.lm_L_right fun A outer s H E f c B => (je_call B (ok_fewest_units fx) (ja_cons (je_var 1) (ja_cons (je_var 6) ja_nil)))))) (jss_cons (js_expr (je_append 4 (je_outD (kb := 7) B (od_L_outcome fx) fx.lm_L_right fun A outer s H E f c B => (je_call B (ok_road fx) (ja_cons (je_var 1) (ja_cons (jx_bin as_add opD_add (je_var 1) (je_tup (ja_cons je_int ja_nil))) ja_nil)))))) (jss_cons (js_if (jtx_cmp as_ne (opD_ne B.u64) (je_frz 4) (jx_bin as_add opD_add (jx_bin as_mul opD_mul (jf_e (jf_lst (ja_cons (jf_e (jf_lst (ja_cons je_str ja_nil))) ja_nil))) je_int) (jx_bin as_mul opD_mul (jf_e (jf_lst (ja_cons (jf_e (jf_lst (ja_cons je_str ja_nil))) ja_nil))) je_int)) rfl) (jss_one (js_ret je_bl)) jss_nil) (jss_one (js_ret (je_and (jx_cmp as_eq (opD_eq B.u64) (je_call B (ok_road fx) (ja_cons (je_var 1) (ja_cons (je_var 1) ja_nil))) (je_tup ja_nil) rfl) (je_one (jx_cmp as_eq (opD_eq B.u64) (je_call B (ok_fewest_units fx) (ja_cons (je_var 1) (ja_cons (je_revT (je_var 1)) ja_nil))) je_int rfl)))))))))))))))))), pure_L_right⟩
theorem ok_L_fewest (fx : Fx P w K mg base T) : DefOk P w K mg base T "_law_fewest" 2 ["_law_row", "_law_lower"] F_L_fewest :=
  def_okX (st := s_L_fewest) (N := N_L_fewest) (k := 1) fx.d_L_fewest ⟨rfl, rfl, rfl, by decide +kernel, rfl, by decide +kernel, by decide +kernel⟩ (fun f fd D => D.bindsN fun _ _ _ _ _ _ us hl => match us, hl with | [_, _], _ => rfl) len_L_fewest
    fun cdv A outer s H E f B tk => ⟨w_L_fewest, (jss_cons (js_unpDT 3 4 B (jf_e (jf_lst (ja_cons (je_call B (ok_L_down fx) (ja_cons (je_var 0) ja_nil)) ja_nil))) (je_call B (ok_L_down fx) (ja_cons (je_var 0) ja_nil)) je_bl) (jss_cons (js_for B (us := [2]) (ji_range1 rfl fx.b_range je_int) (jg_name 2 B.nd) (jss_cons (js_if (jtx_cmp as_in (opD_in B.u65) (je_call B (ok_L_down fx) (ja_cons (je_var 1) ja_nil)) (je_var 3) rfl) (jss_one (js_ret (je_var 2))) jss_nil) (jss_cons (js_setOwn 5 B (jf_lst ja_nil)) (jss_cons (js_for B (us := [6]) (ji_seq (je_var 3)) (jg_name 6 B.nd) (jss_one (js_for B (us := [7]) (ji_range1 rfl fx.b_range (je_b1 (cb_len) fx.b_len (by decide +kernel) (je_b (je_var 6)))) (jg_name 7 B.nd) (jss_cons (js_setCompD 8 [("_law_goal", 9)] B (ji_range1 rfl fx.b_range (je_b1 (cb_len) fx.b_len (by decide +kernel) (je_b (je_var 6)))) (blkOk_by (by kernel_rfl)) (fun s H C cl fp => (jg_name 9 B.nd)) (fun s H C cl fp B => (jts_one (jt_cmp opD_ge (jx_ix (je_var 6) (je_var 7) fun _ _ => rfl) (jx_bin as_add opD_add (jx_ix (je_var 6) (je_var 9) fun _ _ => rfl) je_int) rfl))) (fun s H C cl fp B => (je_var 9)) (sw_true rfl rfl rfl (by kernel_rfl))) (jss_one (js_expr (je_extend 5 (je_b (jf_e (jf_comp [("_law_goal", 9)] B (ji_seq (je_var 8)) (blkOk_by (by kernel_rfl)) (fun s H C cl fp => (jg_name 9 B.nd)) (fun s H C cl fp B => jts_nil) (fun s H C cl fp B => (je_call B (ok_L_down fx) (ja_cons (je_call B (ok_L_moved fx) (ja_cons (je_var 6) (ja_cons (je_var 7) (ja_cons (je_var 9) (ja_cons je_int ja_nil))))) ja_nil))))))))))))) (jss_cons (js_frzO 5 (js_setCompK 3 4 [("_law_one", 6)] B (ji_seq (jf_e (jf_sortedSetT B fx.b_sorted fx.b_set (je_b (je_var 5))))) (blkOk_by (by kernel_rfl)) (fun s H C cl fp => (jg_name 6 B.nd)) (fun s H C cl fp B => (jts_one (jt_noDit B (je_var 6) (je_var 4)))) (fun s H C cl fp B => (je_var 6)) (sw_true rfl rfl rfl (by kernel_rfl)))) (jss_one (js_expr (je_updT 4 B (je_dictT B fx.b_dict (jf_e (jf_comp [("_law_one", 6)] B (ji_seq (je_var 3)) (blkOk_by (by kernel_rfl)) (fun s H C cl fp => (jg_name 6 B.nd)) (fun s H C cl fp B => jts_nil) (fun s H C cl fp B => (je_tup (ja_cons (je_var 6) (ja_cons je_bl ja_nil))))))))))))))) (jss_one (js_ret je_non)))), pure_L_fewest⟩
theorem ok_L_small_right (fx : Fx P w K mg base T) : DefG P w K mg base T "_law_small_right" 10 ["_law_bowl_here"] F_L_small_right :=
  defG_okX (st := s_L_small_right) (N := N_L_small_right) (k := 9) fx.d_L_small_right fx.gx_L_small_right ⟨rfl, rfl, rfl, by decide +kernel, rfl, by decide +kernel, by decide +kernel⟩ (fun f fd D => D.bindsN fun _ _ _ _ _ _ us hl => match us, hl with | [_], _ => rfl) len_L_small_right
    fun A outer s H E gd B tk => ⟨w_L_small_right, (jss_cons (js_set 1 B (je_t1 cb_tuple fx.b_tuple (by decide +kernel) (je_b (jf_e (jf_comp [("_law_turn", 5)] B (ji_range1 rfl fx.b_range (jx_bin as_add opD_add je_int (je_call B (ok_L_ladle fx) (ja_cons (je_var 0) (ja_cons je_int ja_nil))))) (blkOk_by (by kernel_rfl)) (fun s H C cl fp => (jg_name 5 B.nd)) (fun s H C cl fp B => jts_nil) (fun s H C cl fp B => (je_call B (ok_L_ladle fx) (ja_cons (je_var 0) (ja_cons je_int ja_nil))))))))) (jss_cons (js_set 1 B (je_if (jt_cmp opD_lt (jx_b1 as_sum (cb_sum B.calm) fx.b_sum (by decide +kernel) (je_b (je_var 1))) je_int rfl) (je_var 1) (je_t1 cb_tuple fx.b_tuple (by decide +kernel) (je_b (jf_e (jf_comp [("_law_entry", 6)] B (ji_seq (je_var 1)) (blkOk_by (by kernel_rfl)) (fun s H C cl fp => (jg_name 6 B.nd)) (fun s H C cl fp B => jts_nil) (fun s H C cl fp B => (jx_bin as_div opD_div (je_var 6) je_int)))))))) (jss_cons (js_set 2 B (je_call B (ok_L_near_row fx) (ja_cons (je_var 0) (ja_cons (je_var 1) ja_nil)))) (jss_cons (js_set 3 B (je_call B (ok_L_fewest fx) (ja_cons (je_var 1) (ja_cons (je_var 2) ja_nil)))) (jss_cons (js_set 4 B (je_outD (kb := 7) B (od_L_outcome fx) fx.lm_L_small_right fun A outer s H E f c B => (je_call B (ok_fewest_units fx) (ja_cons (je_var 1) (ja_cons (je_var 2) ja_nil))))) (jss_one (js_ret (je_cmp opD_eqS (jx_b1 as_reprA (cb_reprA gd B.u64) fx.b_repr (by decide +kernel) (je_b (je_var 4))) (jx_b1 as_reprA (cb_reprA gd B.u64) fx.b_repr (by decide +kernel) (je_b (je_if (jt_cmp opD_is (je_var 3) je_non rfl) (jf_e (jf_lst (ja_cons je_str ja_nil))) (je_var 3)))) rfl)))))))), pure_L_small_right⟩
theorem ok_law (fx : Fx P w K mg base T) : DefG P w K mg base T "law" 12 ["_law_script"] F_law :=
  defG_okX (st := s_law) (N := N_law) (k := 11) fx.d_law fx.gx_law ⟨rfl, rfl, rfl, by decide +kernel, rfl, by decide +kernel, by decide +kernel⟩ (fun f fd D => D.bindsN fun _ _ _ _ _ _ us hl => match us, hl with | [_], _ => rfl) len_law
    fun A outer s H E gd B tk => ⟨w_law, (jss_cons (js_for B (us := [1]) (ji_range1 rfl fx.b_range (je_bN (cn_max2 B.calm) fx.b_max (by decide +kernel) (ja_cons je_int (ja_cons (je_bN (cn_min2 B.calm) fx.b_min (by decide +kernel) (ja_cons je_int (ja_cons (je_b1 (cb_len) fx.b_len (by decide +kernel) (je_b (je_var 0))) ja_nil))) ja_nil)))) (jg_name 1 B.nd) (jss_cons (js_set 3 B (je_call B (ok_L_bowl fx) (ja_cons (je_var 0) (ja_cons (je_var 1) ja_nil)))) (jss_one (js_if (jt_bool (jw_or (jt_not (jt_val (je_callG B gd (ok_L_right fx) (ja_cons (je_var 3) ja_nil)))) (jw_or1 (jt_not (jt_val (je_callG B gd (ok_L_small_right fx) (ja_cons (je_var 3) ja_nil))))))) (jss_one (js_ret je_bl)) jss_nil)))) (jss_cons (js_set 2 B (jf_e (jf_lst (ja_cons (je_call B (ok_fewest_units fx) (ja_cons (je_tup (ja_cons je_int (ja_cons je_int (ja_cons je_int ja_nil)))) (ja_cons (je_tup (ja_cons je_int (ja_cons je_int (ja_cons je_int ja_nil)))) ja_nil))) (ja_cons (je_call B (ok_road fx) (ja_cons (je_tup (ja_cons je_int (ja_cons je_int ja_nil))) (ja_cons (je_tup (ja_cons je_int (ja_cons je_int ja_nil))) ja_nil))) (ja_cons (je_call B (ok_units fx) (ja_cons (je_call B (ok_road fx) (ja_cons (je_tup (ja_cons je_int (ja_cons je_int (ja_cons je_int ja_nil)))) (ja_cons (je_tup (ja_cons je_int (ja_cons je_int (ja_cons je_int ja_nil)))) ja_nil))) ja_nil)) ja_nil)))))) (jss_one (js_ret (jx_cmp as_eq (opD_eq B.u64) (jx_bin as_add opD_add (je_var 2) (jf_e (jf_lst (ja_cons (je_outD (kb := 7) B (od_L_outcome fx) fx.lm_law fun A outer s H E f c B => (je_call B (ok_road fx) (ja_cons (je_tup (ja_cons je_int (ja_cons je_int ja_nil))) (ja_cons (je_tup (ja_cons je_int (ja_cons je_int ja_nil))) ja_nil)))) ja_nil)))) (jf_e (jf_lst (ja_cons je_int (ja_cons (je_tup (ja_cons (je_tup (ja_cons je_int (ja_cons je_int (ja_cons je_int ja_nil)))) ja_nil)) (ja_cons je_int (ja_cons (jf_e (jf_lst (ja_cons je_str ja_nil))) ja_nil)))))) rfl))))), pure_law⟩
end
end Pr

namespace Pr
open PySem PySem.Spec PyProof.Rows L2 LamX Pd Hd
theorem fx_of {w : World} {K : PySem.W.Frag} {h base : Heap} {mg : Str → Option Value} (X : K.In h) (G : h.Ns mainGlobals mg) (c : SaysZ fa fn fb xi tf ex h K) (lt : ∀ y ∈ tf, LamT K mg base (tabT K tf) y) : Fx PySem.Challenge.rw_sumsalone_k07_whole_roads_of_units.prog w K mg base (tabT K tf) where
  d_L_bowl := hasD_of X G c.d 23 23 rfl rfl
  d_is_integer := hasD_of X G c.d 0 0 rfl rfl
  d_is_from := hasD_of X G c.d 1 1 rfl rfl
  d_is_amount := hasD_of X G c.d 2 2 rfl rfl
  d_is_row := hasD_of X G c.d 3 3 rfl rfl
  d_require_row := hasD_of X G c.d 4 4 rfl rfl
  d_require_rows := hasD_of X G c.d 5 5 rfl rfl
  d_is_comparable := hasD_of X G c.d 8 8 rfl rfl
  d_falling := hasD_of X G c.d 6 6 rfl rfl
  d_prefixes := hasD_of X G c.d 7 7 rfl rfl
  d_bars_of := hasD_of X G c.d 9 9 rfl rfl
  d_is_below := hasD_of X G c.d 10 10 rfl rfl
  d_fewest_units := hasD_of X G c.d 22 22 rfl rfl
  d_steps_between := hasD_of X G c.d 19 19 rfl rfl
  d_are_arranged_alike := hasD_of X G c.d 11 11 rfl rfl
  d_road := hasD_of X G c.d 20 20 rfl rfl
  d_is_step := hasD_of X G c.d 14 14 rfl rfl
  d_are_steps := hasD_of X G c.d 15 15 rfl rfl
  d_units := hasD_of X G c.d 18 18 rfl rfl
  d_L_ladle := hasD_of X G c.d 24 24 rfl rfl
  d_L_dealt := hasD_of X G c.d 31 31 rfl rfl
  d_L_pick := hasD_of X G c.d 25 25 rfl rfl
  d_L_great := hasD_of X G c.d 27 27 rfl rfl
  d_L_drawn_row := hasD_of X G c.d 33 33 rfl rfl
  d_L_moved := hasD_of X G c.d 32 32 rfl rfl
  d_L_mixed := hasD_of X G c.d 26 26 rfl rfl
  d_L_near_row := hasD_of X G c.d 34 34 rfl rfl
  d_arranged := hasD_of X G c.d 13 13 rfl rfl
  d_L_odd_row := hasD_of X G c.d 36 36 rfl rfl
  d_L_down := hasD_of X G c.d 28 28 rfl rfl
  d_L_heads := hasD_of X G c.d 29 29 rfl rfl
  d_L_under := hasD_of X G c.d 30 30 rfl rfl
  d_L_is_way := hasD_of X G c.d 38 38 rfl rfl
  d_behind := hasD_of X G c.d 16 16 rfl rfl
  d_is_road := hasD_of X G c.d 21 21 rfl rfl
  d_after := hasD_of X G c.d 17 17 rfl rfl
  d_L_half := hasD_of X G c.d 37 37 rfl rfl
  d_L_road_right := hasD_of X G c.d 39 39 rfl rfl
  d_is_arranged_alike := hasD_of X G c.d 12 12 rfl rfl
  d_L_right := hasD_of X G c.d 42 42 rfl rfl
  d_L_fewest := hasD_of X G c.d 40 40 rfl rfl
  d_L_small_right := hasD_of X G c.d 41 41 rfl rfl
  d_law := hasD_of X G c.d 43 43 rfl rfl
  d_L_outcome := hasD_of X G c.d 35 35 rfl rfl
  em_L_outcome := exm_all (Hd.ex_0 c.x)
  gl_InvalidNumber := He.glo_ok X G (c.d.fact 47 (f := .glo "InvalidNumber") rfl)
  gl_InvalidOperation := He.glo_ok X G (c.d.fact 46 (f := .glo "InvalidOperation") rfl)
  gl_InvalidSums := He.glo_ok X G (c.d.fact 45 (f := .glo "InvalidSums") rfl)
  gl_TooMany := He.glo_ok X G (c.d.fact 48 (f := .glo "TooMany") rfl)
  gx_L_right := He.glo_ok X G (c.d.fact 42 (f := .glo "_law_right") rfl)
  gx_L_road_right := He.glo_ok X G (c.d.fact 39 (f := .glo "_law_road_right") rfl)
  gx_L_small_right := He.glo_ok X G (c.d.fact 41 (f := .glo "_law_small_right") rfl)
  gx_arranged := He.glo_ok X G (c.d.fact 13 (f := .glo "arranged") rfl)
  gx_law := He.glo_ok X G (c.d.fact 43 (f := .glo "law") rfl)
  gx_steps_between := He.glo_ok X G (c.d.fact 19 (f := .glo "steps_between") rfl)
  lm_L_right := lt "_law_right" (by decide)
  lm_L_road_right := lt "_law_road_right" (by decide)
  lm_L_small_right := lt "_law_small_right" (by decide)
  lm_arranged := lt "arranged" (by decide)
  lm_law := lt "law" (by decide)
  lm_steps_between := lt "steps_between" (by decide)
  nf_InvalidNumber_value := He.noat_ok (c.d.fact 74 (f := .noat "InvalidNumber" "value") rfl)
  nf_TooMany_limit := He.noat_ok (c.d.fact 75 (f := .noat "TooMany" "limit") rfl)
  xc_InvalidOperation := excC_of (c.d.fact 76 (f := .exc "InvalidOperation") rfl) (He.glo_ok X G (c.d.fact 46 (f := .glo "InvalidOperation") rfl))
  xc_InvalidSums := excC_of (c.d.fact 77 (f := .exc "InvalidSums") rfl) (He.glo_ok X G (c.d.fact 45 (f := .glo "InvalidSums") rfl))
  xf_InvalidNumber := xfB_ok (Hd.ex_1 c.x)
  xf_TooMany := xfB_ok (Hd.ex_2 c.x)
  b_abs := He.free_ok X G (c.d.fact 52 (f := .free "abs") rfl)
  b_all := He.free_ok X G (c.d.fact 53 (f := .free "all") rfl)
  b_any := He.free_ok X G (c.d.fact 54 (f := .free "any") rfl)
  b_bool := He.free_ok X G (c.d.fact 55 (f := .free "bool") rfl)
  b_dict := He.free_ok X G (c.d.fact 56 (f := .free "dict") rfl)
  b_enumerate := He.free_ok X G (c.d.fact 57 (f := .free "enumerate") rfl)
  b_int := He.free_ok X G (c.d.fact 58 (f := .free "int") rfl)
  b_isinstance := He.free_ok X G (c.d.fact 59 (f := .free "isinstance") rfl)
  b_len := He.free_ok X G (c.d.fact 60 (f := .free "len") rfl)
  b_list := He.free_ok X G (c.d.fact 61 (f := .free "list") rfl)
  b_max := He.free_ok X G (c.d.fact 62 (f := .free "max") rfl)
  b_min := He.free_ok X G (c.d.fact 63 (f := .free "min") rfl)
  b_range := He.free_ok X G (c.d.fact 64 (f := .free "range") rfl)
  b_repr := He.free_ok X G (c.d.fact 65 (f := .free "repr") rfl)
  b_set := He.free_ok X G (c.d.fact 66 (f := .free "set") rfl)
  b_sorted := He.free_ok X G (c.d.fact 67 (f := .free "sorted") rfl)
  b_sum := He.free_ok X G (c.d.fact 68 (f := .free "sum") rfl)
  b_tuple := He.free_ok X G (c.d.fact 70 (f := .free "tuple") rfl)
  b_zip := He.free_ok X G (c.d.fact 71 (f := .free "zip") rfl)
  c_MAX_LENGTH := He.int_ok X G (c.d.fact 72 (f := .int "MAX_LENGTH" 64) rfl)
  c_MAX_NUMBER := He.int_ok X G (c.d.fact 73 (f := .int "MAX_NUMBER" 999999999999999999999999999999) rfl)
end Pr
open PySem PySem.W PySem.Calls PyProof.Rows
theorem PySem.Challenge.cw_sumsalone_k07_whole_roads_of_units_holds : PySem.Challenge.rw_sumsalone_k07_whole_roads_of_units.Holds := by
  w_on; o_law
  refine HandSHeadRun.head_any (r := OpenLaw.row PySem.Challenge.rw_sumsalone_k07_whole_roads_of_units) (q := view (OpenLaw.row PySem.Challenge.rw_sumsalone_k07_whole_roads_of_units).prog [55]) (H := Hd.hk) (ob := Hd.ob) (M := 12000) (loose := Hd.loose) (d := HandSHeadRun.topDef (OpenLaw.row PySem.Challenge.rw_sumsalone_k07_whole_roads_of_units).prog 55) (kwd := []) Hd.ob_eq
    (by kernel_rfl) (fun s => by kernel_rfl) Hd.run (by kernel_rfl) (by kernel_rfl) (by kernel_rfl) (by rfl) (by first | assumption | decide +kernel) (by decide +kernel) ⟨rfl, rfl, rfl, rfl, rfl, by decide +kernel⟩ ?hw ?hc
  case hw => w_witness2
  case hc =>
    exact Pd.law_endV (l := PySem.Challenge.rw_sumsalone_k07_whole_roads_of_units) (k := 12) (x := "_law_script") (st := Hd.s_law) (F := Pr.F_law) rfl (by kernel_rfl) ⟨rfl, by decide, by decide⟩ (by kernel_rfl)
      (fun w K mg h base KX G c => ⟨Pd.hasD_of KX G c.d 43 43 rfl rfl, fun lt => id (Pr.ok_law (Pr.fx_of KX G c lt))⟩)
      (fun K f fd D s u => D.bindsA (ps := ["_law_script"]) (fun _ _ _ _ _ _ us hl => match us, hl with | [_], _ => rfl) s [u] rfl) Pr.law_true

