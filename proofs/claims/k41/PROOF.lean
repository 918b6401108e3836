import PyProof.Rows.All
import Wide.All
import OpenK.AllK
import Wide.FinOn
import HandS.ForMost
import HandS.ForExc
import HandS.Lambda
import HandS.Walk
import HandS.Zip
import HandS.HeadHook1
import HandS.TupAny
import HandS.Style
import HandS.Defaults
import HandS.Wide
import HandS.TupMul
import HandS.Deep
import HandS.IsInst
import HandS.SortKw
import HandS.SortInts
import KE.SortData
import HandS.Star
import KE.GoesEnum
import HandS.Iter
import KE.DataMinMax
import HandS.Property
import HandS.ClsMeth
import HandS.HeadNt
import HandS.TryMany
import HandS.TryOnly
import HandS.ExcField
import HandS.ExcOwn
import PyProof.ReprRoads
import PyProof.ReprLen
import KE.KExcSuper
import KE.KExcInit
import HandS.ExcInit
import HandS.ExcValue
import HandS.FStr
import PyProof.FitsInt
import KE.KStateDown
import HandS.Head0
import HandS.Head1
import HandS.Head2
import HandS.HeadEnd
import HandS.HeadHook2
import HandS.HeadHook3
import HandS.HeadHook4
import HandS.HeadWalk
import HandS.EndTab
import HandS.EndBits
import PyProof.DictDisplay
import KE.KRevSl
import HandS.Conv
import KE.KDictZip
import HandS.Zip0
import HandS.ListItems
import HandS.RaiseMore
import PyProof.MaxThree
import HandS.Dict
import HandS.SetFor
import HandS.Strs
import HandS.TupSets
import HandS.Small
import HandS.DictComp
import HandS.OwnEq
import Lean
import PySem.Challenge.RW_sumsalone_k41_whole_tables_and_halves
import HandS.Nested
import KE.SortKeyHeap
import KE.KSortKey
import OpenK.KOps
import HandS.Text
import KE.KCallOwn
set_option Elab.async false
set_option linter.all false
set_option maxRecDepth 100000
set_option maxHeartbeats 0
namespace Pd
open PySem PySem.Spec PyProof.Rows L2 LamX

inductive D where
  | non
  | bl (b : Bool)
  | int (i : Int)
  | str (x : Str)
  | tup (xs : List D)
  | lst (xs : List D)
  | scr (ns : List Int)
  | dic (kvs : List (Key × D))
  | dit (kvs : List (List Key × D))
  | ins (C : Str) (fs : List (Str × D))
  | box (a : Addr)
  | raw (v : V)
  | cls (C : Str)

structure Wd where
  M : Hp
  B : List Addr
def Wd.add (wd : Wd) (p : Addr) (o : HO) : Wd := ⟨upd wd.M p o, wd.B⟩
def Sub (M M' : Hp) : Prop := ∀ a o, M a = some o → M' a = some o
theorem Sub.refl (M : Hp) : Sub M M := fun _ _ h => h
theorem Sub.trans {M M1 M2 : Hp} (a : Sub M M1) (b : Sub M1 M2) : Sub M M2 := fun x o h => b x o (a x o h)
theorem Sub.new {M : Hp} {p : Addr} {o : HO} (h : M p = none) : Sub M (upd M p o) := fun a u e => by
  rw [upd_ne (ne_of_none e h)]
  exact e
structure Le (wd wd' : Wd) : Prop where
  m : Sub wd.M wd'.M
  b : ∀ a ∈ wd.B, a ∈ wd'.B
theorem Le.refl (wd : Wd) : Le wd wd := ⟨Sub.refl _, fun _ h => h⟩
theorem Le.trans {a b c : Wd} (x : Le a b) (y : Le b c) : Le a c := ⟨x.m.trans y.m, fun z h => y.b z (x.b z h)⟩
theorem Le.add {wd : Wd} {p : Addr} {o : HO} (h : wd.M p = none) : Le wd (wd.add p o) := ⟨Sub.new h, fun _ h => h⟩

section
variable (K : PySem.W.Frag)
theorem sqL_mono {M M' : Hp} {a : Addr} {xs : List V} (s : Sub M M') (h : SqL K M a xs) : SqL K M' a xs := by
  rcases h with (h | ⟨o, h⟩) | h
  · exact .inl (.inl (s _ _ h))
  · exact .inl (.inr ⟨o, s _ _ h⟩)
  · exact .inr h
theorem sqT_sub {M M' : Hp} {a : Addr} {xs : List V} (s : Sub M M') (h : M a = some (.tup xs)) : SqT K M' a xs := .inl (.inl (s _ _ h))
theorem sqT_mono {M M' : Hp} {a : Addr} {xs : List V} (s : Sub M M') (h : SqT K M a xs) : SqT K M' a xs := by
  rcases h with (h | ⟨o, h⟩) | h
  · exact .inl (.inl (s _ _ h))
  · exact .inl (.inr ⟨o, s _ _ h⟩)
  · exact .inr h

mutual
inductive Rep (wd : Wd) : V → D → Prop
  | non : Rep wd .non .non
  | bl (b : Bool) : Rep wd (.bl b) (.bl b)
  | int (i : Int) : Rep wd (.int i) (.int i)
  | str (x : Str) : Rep wd (.str x) (.str x)
  | tup {a : Addr} {vs : List V} {ds : List D} : wd.M a = some (.tup vs) → Reps wd vs ds → Rep wd (.ref a) (.tup ds)
  | lst {a : Addr} {vs : List V} {ds : List D} : wd.M a = some (.lst vs) → Reps wd vs ds → Rep wd (.ref a) (.lst ds)
  | scr {a : Addr} {ns : List Int} : SqL K wd.M a (ns.map V.int) → Rep wd (.ref a) (.scr ns)
  | dic {a : Addr} {vs : List (Key × V)} {ds : List (Key × D)} : wd.M a = some (.dK vs) → vs.map (·.1) = ds.map (·.1) → Reps wd (vs.map (·.2)) (ds.map (·.2)) → Rep wd (.ref a) (.dic ds)
  | dit {a : Addr} {o : Obj} {vs : List (List Key × V)} {ds : List (List Key × D)} : wd.M a = some (.frz o (.dT vs)) → vs.map (·.1) = ds.map (·.1) → Reps wd (vs.map (·.2)) (ds.map (·.2)) → Rep wd (.ref a) (.dit ds)
  | ins {a dx : Addr} {C : Str} {vs : List (Str × V)} {ds : List (Str × D)} : wd.M a = some (.ins (He.ga K C) dx vs) → vs.map (·.1) = ds.map (·.1) → Reps wd (vs.map (·.2)) (ds.map (·.2)) → Rep wd (.ref a) (.ins C ds)
  | box {a : Addr} : a ∈ wd.B → Rep wd (.ref a) (.box a)
  | raw (v : V) : Rep wd v (.raw v)
  | cls (C : Str) : Rep wd (.ref (He.ga K C)) (.cls C)
inductive Reps (wd : Wd) : List V → List D → Prop
  | nil : Reps wd [] []
  | cons {v : V} {vs : List V} {d : D} {ds : List D} : Rep wd v d → Reps wd vs ds → Reps wd (v :: vs) (d :: ds)
end
end

section
variable {K : PySem.W.Frag} {wd wd' : Wd}
mutual
theorem Rep.mono (le : Le wd wd') : ∀ {v : V} {d : D}, Rep K wd v d → Rep K wd' v d
  | _, _, .non => .non
  | _, _, .bl b => .bl b
  | _, _, .int i => .int i
  | _, _, .str x => .str x
  | _, _, .tup h r => .tup (le.m _ _ h) (Reps.mono le r)
  | _, _, .lst h r => .lst (le.m _ _ h) (Reps.mono le r)
  | _, _, .scr h => .scr (sqL_mono K le.m h)
  | _, _, .dic h e r => .dic (le.m _ _ h) e (Reps.mono le r)
  | _, _, .dit h e r => .dit (le.m _ _ h) e (Reps.mono le r)
  | _, _, .ins h e r => .ins (le.m _ _ h) e (Reps.mono le r)
  | _, _, .box h => .box (le.b _ h)
  | _, _, .raw v => .raw v
  | _, _, .cls C => .cls C
theorem Reps.mono (le : Le wd wd') : ∀ {vs : List V} {ds : List D}, Reps K wd vs ds → Reps K wd' vs ds
  | _, _, .nil => .nil
  | _, _, .cons h t => .cons (Rep.mono le h) (Reps.mono le t)
end
theorem Reps.length : ∀ {vs : List V} {ds : List D}, Reps K wd vs ds → vs.length = ds.length
  | _, _, .nil => rfl
  | _, _, .cons _ t => congrArg (· + 1) t.length
theorem Reps.get : ∀ {vs : List V} {ds : List D} {i : Nat} {d : D}, Reps K wd vs ds → ds[i]? = some d → ∃ v, vs[i]? = some v ∧ Rep K wd v d
  | _, _, i, _, .nil, e => by simp at e
  | _, _, 0, _, .cons h _, e => by simp at e; subst e; exact ⟨_, rfl, h⟩
  | _, _, i + 1, _, .cons _ t, e => by
    obtain ⟨v, e1, r⟩ := Reps.get (i := i) t (by simpa using e)
    exact ⟨v, by simpa using e1, r⟩
theorem Reps.getV : ∀ {vs : List V} {ds : List D} {i : Nat} {v : V}, Reps K wd vs ds → vs[i]? = some v → ∃ d, ds[i]? = some d ∧ Rep K wd v d
  | _, _, i, _, .nil, e => by simp at e
  | _, _, 0, _, .cons h _, e => by simp at e; subst e; exact ⟨_, rfl, h⟩
  | _, _, i + 1, _, .cons _ t, e => by
    obtain ⟨v, e1, r⟩ := Reps.getV (i := i) t (by simpa using e)
    exact ⟨v, by simpa using e1, r⟩
theorem Reps.append : ∀ {vs ws : List V} {ds es : List D}, Reps K wd vs ds → Reps K wd ws es → Reps K wd (vs ++ ws) (ds ++ es)
  | _, _, _, _, .nil, s => s
  | _, _, _, _, .cons h t, s => .cons h (Reps.append t s)
theorem Reps.take : ∀ {vs : List V} {ds : List D} (n : Nat), Reps K wd vs ds → Reps K wd (vs.take n) (ds.take n)
  | _, _, 0, _ => .nil
  | _, _, _ + 1, .nil => .nil
  | _, _, n + 1, .cons h t => .cons h (Reps.take n t)
theorem Reps.drop : ∀ {vs : List V} {ds : List D} (n : Nat), Reps K wd vs ds → Reps K wd (vs.drop n) (ds.drop n)
  | _, _, 0, r => r
  | _, _, _ + 1, .nil => .nil
  | _, _, n + 1, .cons _ t => Reps.drop n t
theorem Reps.set : ∀ {vs : List V} {ds : List D} {v : V} {d : D} (n : Nat), Rep K wd v d → Reps K wd vs ds → Reps K wd (vs.set n v) (ds.set n d)
  | _, _, _, _, _, _, .nil => .nil
  | _, _, _, _, 0, h, .cons _ t => .cons h t
  | _, _, _, _, n + 1, h, .cons a t => .cons a (Reps.set n h t)
theorem Reps.erase : ∀ {vs : List V} {ds : List D} (n : Nat), Reps K wd vs ds → Reps K wd (vs.eraseIdx n) (ds.eraseIdx n)
  | _, _, _, .nil => .nil
  | _, _, 0, .cons _ t => t
  | _, _, n + 1, .cons a t => .cons a (Reps.erase n t)
theorem Reps.reverse : ∀ {vs : List V} {ds : List D}, Reps K wd vs ds → Reps K wd vs.reverse ds.reverse
  | _, _, .nil => .nil
  | _, _, .cons h t => by
    rw [List.reverse_cons, List.reverse_cons]
    exact (Reps.reverse t).append (.cons h .nil)
theorem Reps.rep : ∀ {vs : List V} {ds : List D} (n : Nat), Reps K wd vs ds → Reps K wd (List.replicate n vs).flatten (List.replicate n ds).flatten
  | _, _, 0, _ => .nil
  | _, _, n + 1, h => by
    rw [List.replicate_succ, List.replicate_succ, List.flatten_cons, List.flatten_cons]
    exact h.append (Reps.rep n h)
theorem Reps.ints : ∀ {vs : List V} {ns : List Int}, Reps K wd vs (ns.map D.int) → vs = ns.map V.int
  | _, [], h => by cases h; rfl
  | _, n :: ns, h => by
    cases h with
    | cons a t =>
      cases a
      rw [Reps.ints t]
      rfl
theorem Reps.bools : ∀ {vs : List V} {ns : List Bool}, Reps K wd vs (ns.map D.bl) → vs = ns.map V.bl
  | _, [], h => by cases h; rfl
  | _, n :: ns, h => by
    cases h with
    | cons a t =>
      cases a
      rw [Reps.bools t]
      rfl
end
end Pd

namespace Pd
open PySem PySem.Spec PyProof.Rows L2 LamX

def BoxAt (H : Hp) (b : Addr) : Prop := ∃ g s c : Int, H b = some (.lst [.int g, .int s, .int c]) ∧ 0 ≤ g ∧ g < 2 ^ 4000 ∧ 0 ≤ s ∧ s < 2 ^ 100 ∧ 0 ≤ c
def noTb (o : HO) : Prop := ∀ ps, o ≠ .tbl ps
def Sized : HO → Prop
  | .lst xs => xs.length ≤ sizeLine
  | .tup xs => xs.length ≤ sizeLine
  | .frz _ u => Sized u
  | _ => True
def SizedH : HO → Prop
  | .frz _ _ => True
  | .lst xs => xs.length ≤ sizeLine
  | .tup xs => xs.length ≤ sizeLine
  | _ => True
theorem Sized.h : ∀ {o : HO}, Sized o → SizedH o := fun {o} z => by
  cases o <;> first | exact trivial | exact z
structure Good (T : List (Addr × Str)) (wd : Wd) (H : Hp) : Prop where
  sub : Sub wd.M H
  ntb : ∀ a o, wd.M a = some o → noTb o ∧ Sized o
  box : ∀ b ∈ wd.B, wd.M b = none ∧ BoxAt H b
  tab : Tabs T H
  siz : ∀ a o, H a = some o → SizedH o
def Nt (H : Hp) (a : Addr) : Prop := ∀ o, H a = some o → ¬ noTb o
theorem Nt.of {H : Hp} {a : Addr} (h : H a = none) : Nt H a := fun o e => by
  rw [h] at e
  cases e
theorem Nt.no {H : Hp} {a : Addr} {o : HO} (n : Nt H a) (e : H a = some o) (t : noTb o) : False := n o e t
theorem Nt.upd {H : Hp} {p a : Addr} {o : HO} (n : Nt (upd H p o) a) (ne : a ≠ p) : Nt H a := fun u e => n u (by rw [upd_ne ne]; exact e)
structure Ord (wd0 wd : Wd) (H0 : Hp) : Prop where
  le : Le wd0 wd
  fm : ∀ a o, wd.M a = some o → wd0.M a = some o ∨ Nt H0 a ∨ ∃ vs, o = .tup vs
  fb : ∀ b ∈ wd.B, b ∈ wd0.B ∨ Nt H0 b
structure Keep (wd0 : Wd) (H0 H : Hp) : Prop where
  st : ∀ a o, H0 a = some o → a ∉ wd0.B → noTb o → H a = some o
  dm : ∀ a, Nt H a → Nt H0 a
theorem Ord.refl (wd : Wd) (H : Hp) : Ord wd wd H := ⟨Le.refl _, fun _ _ h => .inl h, fun _ h => .inl h⟩
theorem Keep.refl (wd : Wd) (H : Hp) : Keep wd H H := ⟨fun _ _ h _ _ => h, fun _ h => h⟩
theorem Ord.trans {a b c : Wd} {H0 H1 : Hp} (x : Ord a b H0) (y : Ord b c H1) (k : Keep a H0 H1) : Ord a c H0 :=
  ⟨x.le.trans y.le, fun p o h => (y.fm p o h).elim (x.fm p o) (fun z => .inr (z.elim (fun z => .inl (k.dm p z)) .inr)), fun p h => (y.fb p h).elim (x.fb p) (fun z => .inr (k.dm p z))⟩
theorem Keep.trans {a b : Wd} {H0 H1 H2 : Hp} (k : Keep a H0 H1) (x : Ord a b H0) (l : Keep b H1 H2) : Keep a H0 H2 :=
  ⟨fun p o h n t => l.st p o (k.st p o h n t) (fun hb => (x.fb p hb).elim n (fun z => z.no h t)) t, fun p h => k.dm p (l.dm p h)⟩
inductive Grow : Wd → Hp → Wd → Hp → Prop
  | refl (wd : Wd) (H : Hp) : Grow wd H wd H
  | add {wd wd1 : Wd} {H H1 : Hp} {p : Addr} {o : HO} : Grow wd H wd1 H1 → H1 p = none → noTb o → Sized o → Grow wd H (wd1.add p o) (upd H1 p o)
theorem Grow.one {wd : Wd} {H : Hp} {p : Addr} {o : HO} (h : H p = none) (t : noTb o) (z : Sized o) : Grow wd H (wd.add p o) (upd H p o) := .add (.refl _ _) h t z
theorem Grow.trans {wd wd1 wd2 : Wd} {H H1 H2 : Hp} (a : Grow wd H wd1 H1) (b : Grow wd1 H1 wd2 H2) : Grow wd H wd2 H2 := by
  induction b with
  | refl => exact a
  | add g h t z ih => exact .add (ih a) h t z
theorem noTb_lst {xs : List V} : noTb (.lst xs) := fun _ h => nomatch h
theorem noTb_tup {xs : List V} : noTb (.tup xs) := fun _ h => nomatch h
section
variable {T : List (Addr × Str)}
theorem siz_upd {H : Hp} {p : Addr} {o : HO} (h : ∀ a o, H a = some o → SizedH o) (z : Sized o) : ∀ a u, upd H p o a = some u → SizedH u := fun a u e => by
  by_cases ha : a = p
  · subst ha
    rw [upd_same] at e
    cases e
    exact z.h
  · rw [upd_ne ha] at e
    exact h a u e
theorem Good.add {wd : Wd} {H : Hp} {p : Addr} {o : HO} (g : Good T wd H) (h : H p = none) (t : noTb o) (z : Sized o) : Good T (wd.add p o) (upd H p o) := by
  have hm : wd.M p = none := by
    cases e : wd.M p with
    | none => rfl
    | some u =>
      have := g.sub p u e
      rw [h] at this
      cases this
  refine ⟨fun a u e => ?_, fun a u e => ?_, fun b hb => ?_, g.tab.ext fun b u e => ?_, siz_upd g.siz z⟩
  · by_cases ha : a = p
    · subst ha
      have e' : upd wd.M a o a = some u := e
      rw [upd_same] at e' ⊢
      exact e'
    · have e' : upd wd.M p o a = some u := e
      rw [upd_ne ha] at e' ⊢
      exact g.sub a u e'
  · by_cases ha : a = p
    · subst ha
      have e' : upd wd.M a o a = some u := e
      rw [upd_same] at e'
      cases e'
      exact ⟨t, z⟩
    · have e' : upd wd.M p o a = some u := e
      rw [upd_ne ha] at e'
      exact g.ntb a u e'
  · obtain ⟨h1, gg, s, c, h2, h3⟩ := g.box b hb
    have hbp : b ≠ p := ne_of_none h2 h
    refine ⟨?_, gg, s, c, ?_, h3⟩
    · show upd wd.M p o b = none
      rw [upd_ne hbp]
      exact h1
    · rw [upd_ne hbp]
      exact h2
  · rw [upd_ne (ne_of_none e h)]
    exact e
theorem Good.mnone {wd : Wd} {H : Hp} {p : Addr} (g : Good T wd H) (h : H p = none) : wd.M p = none := by
  cases e : wd.M p with
  | none => rfl
  | some u =>
    have := g.sub p u e
    rw [h] at this
    cases this
theorem Keep.add {wd : Wd} {H : Hp} {p : Addr} {o : HO} (h : H p = none) : Keep wd H (upd H p o) := by
  refine ⟨fun a u e _ _ => ?_, fun a e => ?_⟩
  · rw [upd_ne (ne_of_none e h)]
    exact e
  · by_cases ha : a = p
    · subst ha
      exact Nt.of h
    · exact e.upd ha
theorem Ord.add {wd : Wd} {H : Hp} {p : Addr} {o : HO} (g : Good T wd H) (h : H p = none) : Ord wd (wd.add p o) H := by
  refine ⟨Le.add (g.mnone h), fun a u e => ?_, fun b hb => .inl hb⟩
  by_cases ha : a = p
  · subst ha
    exact .inr (.inl (Nt.of h))
  · have e' : upd wd.M p o a = some u := e
    rw [upd_ne ha] at e'
    exact .inl e'
theorem Grow.all {wd wd' : Wd} {H H' : Hp} (g : Grow wd H wd' H') (o : Good T wd H) : Good T wd' H' ∧ Ord wd wd' H ∧ Keep wd H H' := by
  induction g with
  | refl => exact ⟨o, Ord.refl _ _, Keep.refl _ _⟩
  | add g h t z ih =>
    obtain ⟨a, b, c⟩ := ih o
    exact ⟨a.add h t z, b.trans (Ord.add a h) c, c.trans b (Keep.add h)⟩
end

inductive DK (α : Type) where
  | s (l : List (Key × α))
  | t (l : List (List Key × α))
def DK.vals {α : Type} : DK α → List α
  | .s l => l.map (·.2)
  | .t l => l.map (·.2)
def DK.same {α β : Type} : DK α → DK β → Prop
  | .s a, .s b => a.map (·.1) = b.map (·.1)
  | .t a, .t b => a.map (·.1) = b.map (·.1)
  | _, _ => False
def DK.cell : DK V → HO
  | .s l => .dK l
  | .t l => .dT l
inductive Sl where
  | d (x : D)
  | own (xs : List D)
  | obj (p : Addr) (C : Str) (fs : List (Str × D))
  | cels (cs : List (Addr × List D))
  | dct (lk : Option Obj) (kvs : DK D)
def lkO (lk : Option Obj) (u : HO) : HO := match lk with
  | none => u
  | some o => .frz o u
abbrev PEnv := List (Option Sl)
structure Ctx where
  wd : Wd
  H : Hp
  pn : List (Addr × List V) := []
def NoCel (env : PEnv) (p : Addr) : Prop := ∀ (i : Nat) (cs : List (Addr × List D)), env[i]? = some (some (Sl.cels cs)) → ∀ q ∈ cs, q.1 ≠ p
structure NoOwn (env : PEnv) (σ : L2.St) (p : Addr) : Prop where
  o : ∀ (i : Nat) (xs : List D), env[i]? = some (some (Sl.own xs)) → σ[i]? ≠ some (some (V.ref p))
  c : NoCel env p
structure Ext (K : PySem.W.Frag) (c : Ctx) (wd : Wd) (env : PEnv) (σ : L2.St) (H : Hp) : Prop where
  obj : ∀ (i : Nat) (p : Addr) (C : Str) (fs : List (Str × D)), env[i]? = some (some (Sl.obj p C fs)) → ∃ (dx : Addr) (vs : List (Str × V)), σ[i]? = some (some (V.ref p)) ∧ H p = some (.ins (He.ga K C) dx vs) ∧ wd.M p = none ∧ Nt c.H p ∧ vs.map (·.1) = fs.map (·.1) ∧ Reps K wd (vs.map (·.2)) (fs.map (·.2))
  ob1 : ∀ (i j : Nat) (p p' : Addr) (C C' : Str) (fs gs : List (Str × D)), env[i]? = some (some (Sl.obj p C fs)) → env[j]? = some (some (Sl.obj p' C' gs)) → i = j
  cel : ∀ (i : Nat) (cs : List (Addr × List D)), env[i]? = some (some (Sl.cels cs)) → ∀ q ∈ cs, (∃ vs, H q.1 = some (.lst vs) ∧ Reps K wd vs q.2) ∧ wd.M q.1 = none ∧ q.1 ∉ wd.B ∧ Nt c.H q.1 ∧ ∀ (j : Nat) (ys : List D), env[j]? = some (some (Sl.own ys)) → σ[j]? ≠ some (some (V.ref q.1))
  cnd : ∀ (i : Nat) (cs : List (Addr × List D)), env[i]? = some (some (Sl.cels cs)) → (cs.map (·.1)).Nodup
  ce1 : ∀ (i j : Nat) (cs ds : List (Addr × List D)), env[i]? = some (some (Sl.cels cs)) → env[j]? = some (some (Sl.cels ds)) → i ≠ j → ∀ q ∈ cs, ∀ q' ∈ ds, q.1 ≠ q'.1
  dct : ∀ (i : Nat) (lk : Option Obj) (kvs : DK D), env[i]? = some (some (Sl.dct lk kvs)) → ∃ (p : Addr) (vs : DK V), σ[i]? = some (some (V.ref p)) ∧ H p = some (lkO lk vs.cell) ∧ wd.M p = none ∧ Nt c.H p ∧ vs.same kvs ∧ Reps K wd vs.vals kvs.vals
  dc1 : ∀ (i j : Nat) (lk lk' : Option Obj) (ks ls : DK D) (p : Addr), env[i]? = some (some (Sl.dct lk ks)) → env[j]? = some (some (Sl.dct lk' ls)) → σ[i]? = some (some (V.ref p)) → σ[j]? = some (some (V.ref p)) → i = j
section
variable (K : PySem.W.Frag) (T : List (Addr × Str))
structure Rel (c : Ctx) (wd : Wd) (env : PEnv) (σ : L2.St) (H : Hp) : Prop where
  ord : Ord c.wd wd c.H
  good : Good T wd H
  keep : Keep c.wd c.H H
  len : env.length = σ.length
  dat : ∀ (i : Nat) (x : D), env[i]? = some (some (Sl.d x)) → ∃ v : V, σ[i]? = some (some v) ∧ Rep K wd v x
  own : ∀ (i : Nat) (xs : List D), env[i]? = some (some (Sl.own xs)) → ∃ (p : Addr) (vs : List V), σ[i]? = some (some (V.ref p)) ∧ H p = some (.lst vs) ∧ wd.M p = none ∧ p ∉ wd.B ∧ Nt c.H p ∧ Reps K wd vs xs
  sep : ∀ (i j : Nat) (xs ys : List D) (p : Addr), env[i]? = some (some (Sl.own xs)) → env[j]? = some (some (Sl.own ys)) → σ[i]? = some (some (V.ref p)) → σ[j]? = some (some (V.ref p)) → i = j
  pin : ∀ q ∈ c.pn, H q.1 = some (.lst q.2) ∧ wd.M q.1 = none ∧ q.1 ∉ wd.B ∧ NoOwn env σ q.1
  ext : Ext K c wd env σ H
end
theorem Ord.mnone {T : List (Addr × Str)} {wd wd' : Wd} {H H' : Hp} {p : Addr} {u : HO} (o : Ord wd wd' H) (h : wd.M p = none) (e : H p = some u) (t : noTb u) (g' : Good T wd' H') (e' : H' p = some u) (nt : ∀ vs, u ≠ .tup vs) : wd'.M p = none := by
  cases q : wd'.M p with
  | none => rfl
  | some u' =>
    rcases o.fm p u' q with z | z | ⟨vs, rfl⟩
    · rw [h] at z; cases z
    · exact (z.no e t).elim
    · have := g'.sub p _ q
      rw [e'] at this
      exact absurd (Option.some.inj this) (nt vs)
theorem Ord.bnone {wd wd' : Wd} {H : Hp} {p : Addr} {u : HO} (o : Ord wd wd' H) (h : p ∉ wd.B) (e : H p = some u) (t : noTb u) : p ∉ wd'.B := fun hb => by
  rcases o.fb p hb with z | z
  · exact h z
  · exact z.no e t
section
variable {K : PySem.W.Frag} {T : List (Addr × Str)} {c : Ctx} {wd wd' : Wd} {env env' : PEnv} {σ σ' : L2.St} {H H' : Hp}
theorem noTb_ins {C dx : Addr} {fs : List (Str × V)} : noTb (.ins C dx fs) := fun _ h => nomatch h
theorem Good.insB (g : Good T wd H) {p C dx : Addr} {fs : List (Str × V)} (h : H p = some (.ins C dx fs)) : p ∉ wd.B := fun z => by
  obtain ⟨_, _, _, _, e, _⟩ := g.box p z
  rw [h] at e
  cases e
theorem noTb_dK {kvs : List (Key × V)} : noTb (.dK kvs) := fun _ h => nomatch h
theorem noTb_lk {lk : Option Obj} {kvs : DK V} : noTb (lkO lk kvs.cell) := by
  cases lk <;> cases kvs <;> exact fun _ h => nomatch h
theorem lk_lst {lk : Option Obj} {kvs : DK V} {vs : List V} (h : some (HO.lst vs) = some (lkO lk kvs.cell)) : False := by
  cases lk <;> cases kvs <;> cases h
theorem lk_tup {lk : Option Obj} {kvs : DK V} {vs : List V} (h : some (HO.tup vs) = some (lkO lk kvs.cell)) : False := by
  cases lk <;> cases kvs <;> cases h
theorem lk_ins {lk : Option Obj} {kvs : DK V} {C dx : Addr} {vs : List (Str × V)} (h : some (HO.ins C dx vs) = some (lkO lk kvs.cell)) : False := by
  cases lk <;> cases kvs <;> cases h
theorem Good.dctB (g : Good T wd H) {p : Addr} {lk : Option Obj} {kvs : DK V} (h : H p = some (lkO lk kvs.cell)) : p ∉ wd.B := fun z => by
  obtain ⟨_, _, _, _, e, _⟩ := g.box p z
  rw [h] at e
  exact lk_lst e.symm
theorem noTup_lst {xs vs : List V} : HO.lst xs ≠ .tup vs := fun h => nomatch h
theorem noTup_lk {lk : Option Obj} {kvs : DK V} {vs : List V} : lkO lk kvs.cell ≠ .tup vs := by
  cases lk <;> cases kvs <;> exact fun h => nomatch h
theorem Ext.go (x : Ext K c wd env σ H) (g : Good T wd H) (o : Ord wd wd' H) (g' : Good T wd' H') (k : Keep wd H H') : Ext K c wd' env σ H' := by
  refine ⟨fun i p0 C fs e => ?_, x.ob1, fun i cs e q hq => ?_, x.cnd, x.ce1, fun i lk kvs e => ?_, x.dc1⟩
  · obtain ⟨dx, vs, h1, h2, h3, h4, h5, h6⟩ := x.obj i p0 C fs e
    exact ⟨dx, vs, h1, k.st p0 _ h2 (g.insB h2) noTb_ins, o.mnone h3 h2 noTb_ins g' (k.st p0 _ h2 (g.insB h2) noTb_ins) (fun _ z => nomatch z), h4, h5, h6.mono o.le⟩
  · obtain ⟨⟨vs, h1, h2⟩, h3, h4, h5, h6⟩ := x.cel i cs e q hq
    exact ⟨⟨vs, k.st _ _ h1 h4 noTb_lst, h2.mono o.le⟩, o.mnone h3 h1 noTb_lst g' (k.st _ _ h1 h4 noTb_lst) (fun _ => noTup_lst), o.bnone h4 h1 noTb_lst, h5, h6⟩
  · obtain ⟨p, vs, h1, h2, h3, h4, h5, h6⟩ := x.dct i lk kvs e
    exact ⟨p, vs, h1, k.st p _ h2 (g.dctB h2) noTb_lk, o.mnone h3 h2 noTb_lk g' (k.st p _ h2 (g.dctB h2) noTb_lk) (fun _ => noTup_lk), h4, h5, h6.mono o.le⟩
theorem Ext.sl (x : Ext K c wd env σ H) (hs : ∀ (i : Nat) (s : Sl), env'[i]? = some (some s) → (∀ d, s ≠ .d d) → (∀ ys, s ≠ .own ys) → env[i]? = some (some s) ∧ σ'[i]? = σ[i]?)
    (ho : ∀ (j : Nat) (ys : List D), env'[j]? = some (some (.own ys)) → (∃ ys', env[j]? = some (some (.own ys')) ∧ σ'[j]? = σ[j]?) ∨ ∃ p, σ'[j]? = some (some (.ref p)) ∧ NoCel env p) : Ext K c wd env' σ' H := by
  have ob : ∀ {i : Nat} {p : Addr} {C : Str} {fs : List (Str × D)}, env'[i]? = some (some (Sl.obj p C fs)) → env[i]? = some (some (Sl.obj p C fs)) ∧ σ'[i]? = σ[i]? := fun {i p C fs} e => hs i _ e (fun _ z => nomatch z) (fun _ z => nomatch z)
  have ce : ∀ {i : Nat} {cs : List (Addr × List D)}, env'[i]? = some (some (Sl.cels cs)) → env[i]? = some (some (Sl.cels cs)) ∧ σ'[i]? = σ[i]? := fun {i cs} e => hs i _ e (fun _ z => nomatch z) (fun _ z => nomatch z)
  have dc : ∀ {i : Nat} {lk : Option Obj} {kvs : DK D}, env'[i]? = some (some (Sl.dct lk kvs)) → env[i]? = some (some (Sl.dct lk kvs)) ∧ σ'[i]? = σ[i]? := fun {i lk kvs} e => hs i _ e (fun _ z => nomatch z) (fun _ z => nomatch z)
  refine ⟨fun i p0 C fs e => ?_, fun i j p p' C C' fs gs e1 e2 => x.ob1 i j p p' C C' fs gs (ob e1).1 (ob e2).1, fun i cs e q hq => ?_, fun i cs e => x.cnd i cs (ce e).1, fun i j cs ds e1 e2 => x.ce1 i j cs ds (ce e1).1 (ce e2).1, fun i lk kvs e => ?_, fun i j lk lk' ks ls p e1 e2 e3 e4 => x.dc1 i j lk lk' ks ls p (dc e1).1 (dc e2).1 (by rw [← (dc e1).2]; exact e3) (by rw [← (dc e2).2]; exact e4)⟩
  · obtain ⟨dx, vs, h1, h2⟩ := x.obj i p0 C fs (ob e).1
    exact ⟨dx, vs, by rw [(ob e).2]; exact h1, h2⟩
  · obtain ⟨h1, h3, h4, h5, h6⟩ := x.cel i cs (ce e).1 q hq
    refine ⟨h1, h3, h4, h5, fun j ys e2 => ?_⟩
    rcases ho j ys e2 with ⟨ys', z1, z2⟩ | ⟨p, z1, z2⟩
    · rw [z2]
      exact h6 j ys' z1
    · rw [z1]
      intro z
      have := z2 i cs (ce e).1 q hq
      cases z
      exact this rfl
  · obtain ⟨p, vs, h1, h2⟩ := x.dct i lk kvs (dc e).1
    exact ⟨p, vs, by rw [(dc e).2]; exact h1, h2⟩
theorem upd_none {M : Hp} {p a : Addr} {o : HO} (h : M a = none) (ne : a ≠ p) : upd M p o a = none := by rw [upd_ne ne]; exact h
theorem Ext.addM (x : Ext K c wd env σ H) {p : Addr} {vs : List V} {o : HO} (hm : wd.M p = none) (n : NoCel env p) (h : H p = some (.lst vs)) : Ext K c (wd.add p o) env σ H := by
  have le : Le wd (wd.add p o) := Le.add hm
  refine ⟨fun i p0 C fs e => ?_, x.ob1, fun i cs e q hq => ?_, x.cnd, x.ce1, fun i lk kvs e => ?_, x.dc1⟩
  · obtain ⟨dx, us, h1, h2, h3, h4, h5, h6⟩ := x.obj i p0 C fs e
    refine ⟨dx, us, h1, h2, upd_none h3 (fun z => ?_), h4, h5, h6.mono le⟩
    rw [z, h] at h2
    cases h2
  · obtain ⟨⟨us, h1, h2⟩, h3, h4, h5, h6⟩ := x.cel i cs e q hq
    exact ⟨⟨us, h1, h2.mono le⟩, upd_none h3 (n i cs e q hq), h4, h5, h6⟩
  · obtain ⟨p0, us, h1, h2, h3, h4, h5, h6⟩ := x.dct i lk kvs e
    refine ⟨p0, us, h1, h2, upd_none h3 (fun z => ?_), h4, h5, h6.mono le⟩
    rw [z, h] at h2
    exact lk_lst h2
theorem Ext.updL (x : Ext K c wd env σ H) {p : Addr} {vs : List V} {o : HO} (n : NoCel env p) (h : H p = some (.lst vs)) : Ext K c wd env σ (upd H p o) := by
  refine ⟨fun i p0 C fs e => ?_, x.ob1, fun i cs e q hq => ?_, x.cnd, x.ce1, fun i lk kvs e => ?_, x.dc1⟩
  · obtain ⟨dx, us, h1, h2, h3⟩ := x.obj i p0 C fs e
    refine ⟨dx, us, h1, ?_, h3⟩
    rw [upd_ne (fun z => by rw [z, h] at h2; cases h2)]
    exact h2
  · obtain ⟨⟨us, h1, h2⟩, h3⟩ := x.cel i cs e q hq
    exact ⟨⟨us, by rw [upd_ne (n i cs e q hq)]; exact h1, h2⟩, h3⟩
  · obtain ⟨p0, us, h1, h2, h3⟩ := x.dct i lk kvs e
    refine ⟨p0, us, h1, ?_, h3⟩
    rw [upd_ne (fun z => by rw [z, h] at h2; exact lk_lst h2)]
    exact h2
theorem Ext.new (x : Ext K c wd env σ H) {p : Addr} {o : HO} (h : H p = none) : Ext K c wd env σ (upd H p o) := by
  refine ⟨fun i p0 C fs e => ?_, x.ob1, fun i cs e q hq => ?_, x.cnd, x.ce1, fun i lk kvs e => ?_, x.dc1⟩
  · obtain ⟨dx, us, h1, h2, h3⟩ := x.obj i p0 C fs e
    exact ⟨dx, us, h1, by rw [upd_ne (ne_of_none h2 h)]; exact h2, h3⟩
  · obtain ⟨⟨us, h1, h2⟩, h3⟩ := x.cel i cs e q hq
    exact ⟨⟨us, by rw [upd_ne (ne_of_none h1 h)]; exact h1, h2⟩, h3⟩
  · obtain ⟨p0, us, h1, h2, h3⟩ := x.dct i lk kvs e
    exact ⟨p0, us, h1, by rw [upd_ne (ne_of_none h2 h)]; exact h2, h3⟩
theorem Ext.noOwn (x : Ext K c wd env σ H) {i : Nat} {xs : List D} {p : Addr} (e : env[i]? = some (some (Sl.own xs))) (h : σ[i]? = some (some (.ref p))) : NoCel env p := fun j cs ec q hq z =>
  (x.cel j cs ec q hq).2.2.2.2 i xs e (by rw [z]; exact h)
theorem Ext.noNone (x : Ext K c wd env σ H) {p : Addr} (h : H p = none) : NoCel env p := fun j cs ec q hq z => by
  obtain ⟨⟨vs, h1, _⟩, _⟩ := x.cel j cs ec q hq
  rw [z, h] at h1
  cases h1
theorem NoCel.set_d {i : Nat} {s : Sl} {p : Addr} (h : NoCel env p) (hs : ∀ cs, s ≠ .cels cs) : NoCel (env.set i (some s)) p := fun j cs e => by
  by_cases hj : i = j
  · subst hj
    by_cases hl : i < env.length
    · rw [List.getElem?_set_self hl] at e
      cases e
      exact absurd rfl (hs cs)
    · rw [List.set_eq_of_length_le (by omega)] at e
      exact h i cs e
  · rw [List.getElem?_set_ne hj] at e
    exact h j cs e
end
section
variable {K : PySem.W.Frag} {T : List (Addr × Str)} {c : Ctx} {wd wd' : Wd} {env : PEnv} {σ : L2.St} {H H' : Hp}
theorem Rel.go (r : Rel K T c wd env σ H) (o : Ord wd wd' H) (g : Good T wd' H') (k : Keep wd H H') : Rel K T c wd' env σ H' := by
  refine ⟨r.ord.trans o r.keep, g, r.keep.trans r.ord k, r.len, fun i x e => ?_, fun i xs e => ?_, r.sep, fun q hq => ?_, r.ext.go r.good o g k⟩
  · obtain ⟨v, h1, h2⟩ := r.dat i x e
    exact ⟨v, h1, h2.mono o.le⟩
  · obtain ⟨p, vs, h1, h2, h3, h4, h5, h6⟩ := r.own i xs e
    refine ⟨p, vs, h1, k.st p _ h2 h4 noTb_lst, ?_, fun hb => ?_, h5, h6.mono o.le⟩
    · exact o.mnone h3 h2 noTb_lst g (k.st p _ h2 h4 noTb_lst) fun _ => noTup_lst
    · rcases o.fb p hb with z | z
      · exact h4 z
      · exact z.no h2 noTb_lst
  · obtain ⟨h1, h2, h3, h4⟩ := r.pin q hq
    refine ⟨k.st _ _ h1 h3 noTb_lst, ?_, fun hb => ?_, h4⟩
    · exact o.mnone h2 h1 noTb_lst g (k.st _ _ h1 h3 noTb_lst) fun _ => noTup_lst
    · rcases o.fb _ hb with y | y
      · exact h3 y
      · exact y.no h1 noTb_lst
theorem Rel.grow (r : Rel K T c wd env σ H) (g : Grow wd H wd' H') : Rel K T c wd' env σ H' :=
  let ⟨a, b, k⟩ := g.all r.good
  r.go b a k
theorem get_set {α : Type} {l : List α} {i j : Nat} {x y : α} (h : (l.set i x)[j]? = some y) : (i = j ∧ x = y ∧ i < l.length) ∨ (i ≠ j ∧ l[j]? = some y) := by
  by_cases e : i = j
  · subst e
    by_cases hl : i < l.length
    · rw [List.getElem?_set_self hl] at h
      exact .inl ⟨rfl, Option.some.inj h, hl⟩
    · rw [List.set_eq_of_length_le (by omega)] at h
      have := (List.getElem?_eq_some_iff.mp h).1
      omega
  · rw [List.getElem?_set_ne e] at h
    exact .inr ⟨e, h⟩
theorem Rel.set (r : Rel K T c wd env σ H) {i : Nat} {v : V} {x : D} (h : Rep K wd v x) : Rel K T c wd (env.set i (some (.d x))) (σ.set i (some v)) H := by
  refine ⟨r.ord, r.good, r.keep, by simp [r.len], fun j y e => ?_, fun j ys e => ?_, fun j k xs ys p e1 e2 e3 e4 => ?_, fun q hq => ?_, r.ext.sl (fun j s e n1 n2 => ?_) fun j ys e => ?_⟩
  · rcases get_set e with ⟨rfl, e, hl⟩ | ⟨ne, e⟩
    · cases e
      rw [r.len] at hl
      exact ⟨v, List.getElem?_set_self hl, h⟩
    · obtain ⟨w, h1, h2⟩ := r.dat j y e
      exact ⟨w, by rw [List.getElem?_set_ne ne]; exact h1, h2⟩
  · rcases get_set e with ⟨rfl, e, hl⟩ | ⟨ne, e⟩
    · cases e
    · obtain ⟨p, vs, h1, h2⟩ := r.own j ys e
      exact ⟨p, vs, by rw [List.getElem?_set_ne ne]; exact h1, h2⟩
  · rcases get_set e1 with ⟨rfl, e, hl⟩ | ⟨ne1, e1⟩
    · cases e
    · rcases get_set e2 with ⟨rfl, e, hl⟩ | ⟨ne2, e2⟩
      · cases e
      · rw [List.getElem?_set_ne ne1] at e3
        rw [List.getElem?_set_ne ne2] at e4
        exact r.sep j k xs ys p e1 e2 e3 e4
  · obtain ⟨h1, h2, h3, h4⟩ := r.pin q hq
    refine ⟨h1, h2, h3, fun j ys e => ?_, h4.c.set_d fun _ z => nomatch z⟩
    rcases get_set e with ⟨rfl, e, hl⟩ | ⟨ne, e⟩
    · cases e
    · rw [List.getElem?_set_ne ne]
      exact h4.o j ys e
  · rcases get_set e with ⟨rfl, e, hl⟩ | ⟨ne, e⟩
    · cases e
      exact absurd rfl (n1 x)
    · exact ⟨e, List.getElem?_set_ne ne⟩
  · rcases get_set e with ⟨rfl, e, hl⟩ | ⟨ne, e⟩
    · cases e
    · exact .inl ⟨ys, e, List.getElem?_set_ne ne⟩
theorem Rel.freeze (r : Rel K T c wd env σ H) {i : Nat} {xs : List D} (e : env[i]? = some (some (Sl.own xs))) :
    ∃ (p : Addr) (vs : List V), σ[i]? = some (some (V.ref p)) ∧ H p = some (.lst vs) ∧ Le wd (wd.add p (.lst vs)) ∧ Rel K T c (wd.add p (.lst vs)) (env.set i (some (.d (.lst xs)))) σ H ∧ Rep K (wd.add p (.lst vs)) (.ref p) (.lst xs) := by
  obtain ⟨p, vs, h1, h2, h3, h4, h5, h6⟩ := r.own i xs e
  have le : Le wd (wd.add p (.lst vs)) := Le.add h3
  have hr : Rep K (wd.add p (.lst vs)) (.ref p) (.lst xs) := .lst upd_same (h6.mono le)
  have hil : i < env.length := (List.getElem?_eq_some_iff.mp e).1
  have gd : Good T (wd.add p (.lst vs)) H := by
    refine ⟨fun a o q => ?_, fun a o q => ?_, fun b hb => ?_, r.good.tab, r.good.siz⟩
    · by_cases ha : a = p
      · subst ha
        have q' : upd wd.M a (.lst vs) a = some o := q
        rw [upd_same] at q'
        cases q'
        exact h2
      · have q' : upd wd.M p (.lst vs) a = some o := q
        rw [upd_ne ha] at q'
        exact r.good.sub a o q'
    · by_cases ha : a = p
      · subst ha
        have q' : upd wd.M a (.lst vs) a = some o := q
        rw [upd_same] at q'
        cases q'
        exact ⟨noTb_lst, r.good.siz _ _ h2⟩
      · have q' : upd wd.M p (.lst vs) a = some o := q
        rw [upd_ne ha] at q'
        exact r.good.ntb a o q'
    · obtain ⟨z1, z2⟩ := r.good.box b hb
      refine ⟨?_, z2⟩
      show upd wd.M p (.lst vs) b = none
      rw [upd_ne (show b ≠ p from fun z => h4 (z ▸ hb))]
      exact z1
  refine ⟨p, vs, h1, h2, le, ⟨⟨r.ord.le.trans le, fun a o q => ?_, r.ord.fb⟩, gd, r.keep, by simp [r.len], fun j y q => ?_, fun j ys q => ?_, fun j l as bs z e1 e2 e3 e4 => ?_, fun q hq => ?_, (r.ext.addM h3 (r.ext.noOwn e h1) h2).sl (fun j s q n1 n2 => ?_) fun j ys q => ?_⟩, hr⟩
  · by_cases ha : a = p
    · subst ha
      exact .inr (.inl h5)
    · have q' : upd wd.M p (.lst vs) a = some o := q
      rw [upd_ne ha] at q'
      exact r.ord.fm a o q'
  · rcases get_set q with ⟨rfl, q, hl⟩ | ⟨ne, q⟩
    · cases q
      exact ⟨.ref p, h1, hr⟩
    · obtain ⟨w, z1, z2⟩ := r.dat j y q
      exact ⟨w, z1, z2.mono le⟩
  · rcases get_set q with ⟨rfl, q, hl⟩ | ⟨ne, q⟩
    · cases q
    · obtain ⟨p2, us, z1, z2, z3, z4, z5, z6⟩ := r.own j ys q
      refine ⟨p2, us, z1, z2, ?_, z4, z5, z6.mono le⟩
      show upd wd.M p (.lst vs) p2 = none
      rw [upd_ne (show p2 ≠ p from fun z => ne (r.sep i j xs ys p2 e q (by rw [z]; exact h1) z1))]
      exact z3
  · rcases get_set e1 with ⟨rfl, q, hl⟩ | ⟨ne1, e1⟩
    · cases q
    · rcases get_set e2 with ⟨rfl, q, hl⟩ | ⟨ne2, e2⟩
      · cases q
      · exact r.sep j l as bs z e1 e2 e3 e4
  · obtain ⟨y1, y2, y3, y4⟩ := r.pin q hq
    refine ⟨y1, ?_, y3, fun j ys z => ?_, y4.c.set_d fun _ z => nomatch z⟩
    · show upd wd.M p (.lst vs) q.1 = none
      rw [upd_ne (show q.1 ≠ p from fun z => y4.o i xs e (by rw [z]; exact h1))]
      exact y2
    · rcases get_set z with ⟨rfl, z, hl⟩ | ⟨ne, z⟩
      · cases z
      · exact y4.o j ys z
  · rcases get_set q with ⟨rfl, q, hl⟩ | ⟨ne, q⟩
    · cases q
      exact absurd rfl (n1 _)
    · exact ⟨q, rfl⟩
  · rcases get_set q with ⟨rfl, q, hl⟩ | ⟨ne, q⟩
    · cases q
    · exact .inl ⟨ys, q, rfl⟩
theorem Rel.mut (r : Rel K T c wd env σ H) {i : Nat} {xs ys : List D} {p : Addr} {us : List V} (e : env[i]? = some (some (Sl.own xs))) (hp : σ[i]? = some (some (V.ref p))) (h : Reps K wd us ys) (hz : us.length ≤ sizeLine) :
    Rel K T c wd (env.set i (some (.own ys))) σ (upd H p (.lst us)) := by
  obtain ⟨p', vs, h1, h2, h3, h4, h5, h6⟩ := r.own i xs e
  rw [h1] at hp
  cases hp
  refine ⟨r.ord, ⟨fun a o q => ?_, r.good.ntb, fun b hb => ?_, fun q hq => ?_, siz_upd r.good.siz hz⟩, ⟨fun a o q n t => ?_, fun a q => ?_⟩, by simp [r.len], fun j y q => ?_, fun j zs q => ?_, fun j l as bs z e1 e2 e3 e4 => ?_, fun q hq => ?_, (r.ext.updL (r.ext.noOwn e h1) h2).sl (fun j s q n1 n2 => ?_) fun j ys q => ?_⟩
  · rw [upd_ne (fun z => by rw [z, h3] at q; cases q)]
    exact r.good.sub a o q
  · obtain ⟨z1, g, s, c', z2, z3⟩ := r.good.box b hb
    exact ⟨z1, g, s, c', by rw [upd_ne (show b ≠ p from fun z => h4 (z ▸ hb))]; exact z2, z3⟩
  · obtain ⟨ps, z1, z2, z3⟩ := r.good.tab q hq
    refine ⟨ps, ?_, z2, fun pos cv hc => ?_⟩
    · rw [upd_ne (fun z => by rw [z, h2] at z1; cases z1)]
      exact z1
    · obtain ⟨a, y1, y2⟩ := z3 pos cv hc
      refine ⟨a, y1, ?_⟩
      rw [upd_ne (fun z => by rw [z, h2] at y2; cases y2)]
      exact y2
  · rw [upd_ne (show a ≠ p from fun z => h5.no (by rw [← z]; exact q) t)]
    exact r.keep.st a o q n t
  · by_cases ha : a = p
    · subst ha
      exact h5
    · exact r.keep.dm a (q.upd ha)
  · rcases get_set q with ⟨rfl, q, hl⟩ | ⟨ne, q⟩
    · cases q
    · exact r.dat j y q
  · rcases get_set q with ⟨rfl, q, hl⟩ | ⟨ne, q⟩
    · cases q
      exact ⟨p, us, h1, upd_same, h3, h4, h5, h⟩
    · obtain ⟨p2, ws, z1, z2, z3⟩ := r.own j zs q
      refine ⟨p2, ws, z1, ?_, z3⟩
      rw [upd_ne (show p2 ≠ p from fun z => ne (r.sep i j xs zs p2 e q (by rw [z]; exact h1) z1))]
      exact z2
  · have own' : ∀ {j : Nat} {as : List D}, (env.set i (some (.own ys)))[j]? = some (some (.own as)) → ∃ as', env[j]? = some (some (.own as')) := fun {j as} q => by
      rcases get_set q with ⟨rfl, q, hl⟩ | ⟨ne, q⟩
      · exact ⟨xs, e⟩
      · exact ⟨as, q⟩
    obtain ⟨as', q1⟩ := own' e1
    obtain ⟨bs', q2⟩ := own' e2
    exact r.sep j l as' bs' z q1 q2 e3 e4
  · obtain ⟨y1, y2, y3, y4⟩ := r.pin q hq
    refine ⟨?_, y2, y3, fun j as z => ?_, y4.c.set_d fun _ z => nomatch z⟩
    · rw [upd_ne (show q.1 ≠ p from fun z => y4.o i xs e (by rw [z]; exact h1))]
      exact y1
    · rcases get_set z with ⟨rfl, z, hl⟩ | ⟨ne, z⟩
      · exact y4.o i xs e
      · exact y4.o j as z
  · rcases get_set q with ⟨rfl, q, hl⟩ | ⟨ne, q⟩
    · cases q
      exact absurd rfl (n2 _)
    · exact ⟨q, rfl⟩
  · rcases get_set q with ⟨rfl, q, hl⟩ | ⟨ne, q⟩
    · exact .inl ⟨xs, e, rfl⟩
    · exact .inl ⟨ys, q, rfl⟩
end
end Pd

namespace Pd
open PySem PySem.Spec PyProof.Rows L2 LamX

def gt : PEnv → Nat → Option Sl
  | [], _ => none
  | x :: _, 0 => x
  | _ :: r, n + 1 => gt r n
theorem gt_eq : ∀ (env : PEnv) (i : Nat) {s : Sl}, gt env i = some s → env[i]? = some (some s)
  | [], _, _, h => by cases h
  | x :: r, 0, _, h => by
    have h' : x = some _ := h
    rw [h']; rfl
  | x :: r, n + 1, _, h => by
    have := gt_eq r n (s := _) h
    simpa using this

@[irreducible] def br (b : Bool) (x y : Prop) : Prop := match b with
  | true => x
  | false => y
theorem br_t {x y : Prop} (h : br true x y) : x := by unfold br at h; exact h
theorem br_f {x y : Prop} (h : br false x y) : y := by unfold br at h; exact h
theorem br_of {b : Bool} {x y : Prop} (h : b = true → x) (g : b = false → y) : br b x y := by
  unfold br
  cases b with
  | true => exact h rfl
  | false => exact g rfl
theorem br_tt {b : Bool} {x y : Prop} (e : b = true) (h : x) : br b x y := br_of (fun _ => h) (fun z => by rw [e] at z; cases z)
theorem br_ff {b : Bool} {x y : Prop} (e : b = false) (h : y) : br b x y := br_of (fun z => by rw [e] at z; cases z) (fun _ => h)
theorem br_if {p : Prop} [Decidable p] {x y : Prop} (h : p → x) (g : ¬ p → y) : br (decide p) x y := br_of (fun z => h (of_decide_eq_true z)) (fun z => g (of_decide_eq_false z))
theorem br_no {b : Bool} {x y : Prop} (h : br b y x) : br (!b) x y := by
  cases b with
  | true => exact br_of (fun z => by cases z) (fun _ => br_t h)
  | false => exact br_of (fun _ => br_f h) (fun z => by cases z)

structure Xc where
  cls : Str
  fs : List (Str × D)
abbrev W (α : Type) := PEnv → (α → PEnv → Prop) → (Xc → Prop) → Prop
def W.ret {α : Type} (a : α) : W α := fun env Q _ => Q a env
def W.bind {α β : Type} (m : W α) (f : α → W β) : W β := fun env Q ex => m env (fun a env' => f a env' Q ex) ex
def W.opt {α : Type} (o : Option α) : W α := fun env Q _ => match o with
  | some a => Q a env
  | none => False
def XRep (K : PySem.W.Frag) (x : Xc) (cl : Value) (dd : Option Addr) (wd : Wd) (H : Hp) : Prop :=
  cl = .ref (He.ga K x.cls) ∧ ((x.fs = [] ∧ dd = none) ∨ ∃ (a : Addr) (vs : List (Str × V)), dd = some a ∧ H a = some (.xd vs) ∧ vs.map (·.1) = x.fs.map (·.1) ∧ Reps K wd (vs.map (·.2)) (x.fs.map (·.2)))
section
variable (K : PySem.W.Frag) (T : List (Addr × Str))
def XOk (c : Ctx) (E : XK) (Ex : Xc → Prop) : Prop :=
  ∀ x, Ex x → ∀ (cl : Value) (dd : Option Addr) (wd' : Wd) (H' : Hp), Ord c.wd wd' c.H → Good T wd' H' → Keep c.wd c.H H' → XRep K x cl dd wd' H' → E cl dd H'
abbrev RR (α β : Type) := Ctx → Wd → PEnv → L2.St → Hp → β → α → Prop
def lift {α β : Type} (R : RR α β) (E : XK) (w : W α) : L2.St → Hp → (β → Hp → Prop) → Prop := fun σ H Q =>
  ∃ (c : Ctx) (wd : Wd) (env : PEnv) (P : α → PEnv → Prop) (Ex : Xc → Prop), Rel K T c wd env σ H ∧ w env P Ex ∧ XOk K T c E Ex ∧
    ∀ a env', P a env' → ∀ (b : β) (wd' : Wd) (H' : Hp), Le wd wd' → Rel K T c wd' env' σ H' → R c wd' env' σ H' b a → Q b H'
def rE : RR D V := fun _ wd _ _ _ v d => Rep K wd v d
def rT : RR Bool Bool := fun _ _ _ _ _ b a => b = a
def rA : RR (List D) (List V) := fun _ wd _ _ _ vs ds => Reps K wd vs ds
def Top (wd : Wd) (H : Hp) (v : V) (d : D) : Prop := Rep K wd v d ∨ ∃ (p : Addr) (vs : List V) (xs : List D), v = .ref p ∧ d = .lst xs ∧ H p = some (.lst vs) ∧ Reps K wd vs xs
def rB : RR D V := fun _ wd _ _ H v d => Top K wd H v d
def rF : RR (List D) V := fun c wd env σ H v xs => ∃ (p : Addr) (vs : List V), v = .ref p ∧ H p = some (.lst vs) ∧ wd.M p = none ∧ p ∉ wd.B ∧ Nt c.H p ∧ Reps K wd vs xs ∧
  NoOwn env σ p ∧ ∀ q ∈ c.pn, q.1 ≠ p
end
abbrev JE (T : List (Addr × Str)) (X : Cx) (E : XK) (e : Expr) (w : W D) : Prop := PE X e (lift X.K T (rE X.K) E w)
abbrev JB (T : List (Addr × Str)) (X : Cx) (E : XK) (e : Expr) (w : W D) : Prop := PE X e (lift X.K T (rB X.K) E w)
abbrev JF (T : List (Addr × Str)) (X : Cx) (E : XK) (e : Expr) (w : W (List D)) : Prop := PE X e (lift X.K T (rF X.K) E w)
abbrev JT (T : List (Addr × Str)) (X : Cx) (E : XK) (e : Expr) (w : W Bool) : Prop := PT X e (lift X.K T rT E w)
abbrev JW (T : List (Addr × Str)) (X : Cx) (E : XK) (e : Expr) (w : W Bool) : Prop := PW X e (lift X.K T rT E w)
abbrev JA (T : List (Addr × Str)) (X : Cx) (E : XK) (es : List Expr) (w : W (List D)) : Prop := PA X es (lift X.K T (rA X.K) E w)

section
variable {X : Cx} {T : List (Addr × Str)} {E : XK}
theorem peI {e : Expr} {t t' : TE} (h : PE X e t) (i : ∀ σ H Q, t' σ H Q → t σ H Q) : PE X e t' := ⟨fun pins s σ H Q I q => h.run pins s σ H Q I (i σ H Q q)⟩
theorem ptI {e : Expr} {t t' : TT} (h : PT X e t) (i : ∀ σ H Q, t' σ H Q → t σ H Q) : PT X e t' := ⟨fun pins s σ H Q I q => h.run pins s σ H Q I (i σ H Q q)⟩
theorem pwI {e : Expr} {t t' : TT} (h : PW X e t) (i : ∀ σ H Q, t' σ H Q → t σ H Q) : PW X e t' := ⟨fun whole pins s σ H Q I q => h.run whole pins s σ H Q I (i σ H Q q)⟩
theorem paI {es : List Expr} {t t' : TA} (h : PA X es t) (i : ∀ σ H Q, t' σ H Q → t σ H Q) : PA X es t' := ⟨fun pos pins s σ H Q I q => h.run pos pins s σ H Q I (i σ H Q q)⟩

def wVar (i : Nat) : W D := fun env Q _ => match gt env i with
  | some (.d x) => Q x env
  | _ => False
def wFrz (i : Nat) : W D := fun env Q _ => match gt env i with
  | some (.own xs) => Q (.lst xs) (env.set i (some (.d (.lst xs))))
  | _ => False
def wOwn (i : Nat) : W D := fun env Q _ => match gt env i with
  | some (.own xs) => Q (.lst xs) env
  | _ => False
theorem wVar_inv {i : Nat} {env : PEnv} {Q : D → PEnv → Prop} {ex : Xc → Prop} (h : wVar i env Q ex) : ∃ x, gt env i = some (.d x) ∧ Q x env := by
  unfold wVar at h
  split at h
  · exact ⟨_, by assumption, h⟩
  · exact h.elim
theorem wFrz_inv {i : Nat} {env : PEnv} {Q : D → PEnv → Prop} {ex : Xc → Prop} (h : wFrz i env Q ex) : ∃ xs, gt env i = some (.own xs) ∧ Q (.lst xs) (env.set i (some (.d (.lst xs)))) := by
  unfold wFrz at h
  split at h
  · exact ⟨_, by assumption, h⟩
  · exact h.elim
theorem wOwn_inv {i : Nat} {env : PEnv} {Q : D → PEnv → Prop} {ex : Xc → Prop} (h : wOwn i env Q ex) : ∃ xs, gt env i = some (.own xs) ∧ Q (.lst xs) env := by
  unfold wOwn at h
  split at h
  · exact ⟨_, by assumption, h⟩
  · exact h.elim
section
variable {x : Str} {pos : Pos}
theorem je_var (i : Nat) (hN : X.N[i]? = some x := by rfl) (hv : Vis X.env.scope x := by first | exact Or.inl rfl | exact Or.inr (Or.inl rfl) | exact Or.inr (Or.inr rfl)) (hd : (x == ("__debug__" : Str)) = false := by decide)
    (hcd : (x == ("__classdict__" : Str)) = false := by decide) : JE T X E (.Name x pos) (wVar i) :=
  peI (pe_var hN hv hd hcd) fun σ H Q ⟨c, wd, env, P, Ex, r, h, _, k⟩ => by
    obtain ⟨d, e, h⟩ := wVar_inv h
    obtain ⟨v, e1, rp⟩ := r.dat i d (gt_eq _ _ e)
    exact ⟨v, e1, k d env h v wd H (Le.refl _) r rp⟩
theorem je_frz (i : Nat) (hN : X.N[i]? = some x := by rfl) (hv : Vis X.env.scope x := by first | exact Or.inl rfl | exact Or.inr (Or.inl rfl) | exact Or.inr (Or.inr rfl)) (hd : (x == ("__debug__" : Str)) = false := by decide)
    (hcd : (x == ("__classdict__" : Str)) = false := by decide) : JE T X E (.Name x pos) (wFrz i) :=
  peI (pe_var hN hv hd hcd) fun σ H Q ⟨c, wd, env, P, Ex, r, h, _, k⟩ => by
    obtain ⟨xs, e, h⟩ := wFrz_inv h
    obtain ⟨p, vs, e1, e2, le, r2, rp⟩ := r.freeze (gt_eq _ _ e)
    exact ⟨.ref p, e1, k _ _ h _ _ H le r2 rp⟩
theorem jb_own (i : Nat) (hN : X.N[i]? = some x := by rfl) (hv : Vis X.env.scope x := by first | exact Or.inl rfl | exact Or.inr (Or.inl rfl) | exact Or.inr (Or.inr rfl)) (hd : (x == ("__debug__" : Str)) = false := by decide)
    (hcd : (x == ("__classdict__" : Str)) = false := by decide) : JB T X E (.Name x pos) (wOwn i) :=
  peI (pe_var hN hv hd hcd) fun σ H Q ⟨c, wd, env, P, Ex, r, h, _, k⟩ => by
    obtain ⟨xs, e, h⟩ := wOwn_inv h
    obtain ⟨p, vs, e1, e2, _, _, _, rp⟩ := r.own i xs (gt_eq _ _ e)
    exact ⟨.ref p, e1, k _ _ h _ wd H (Le.refl _) r (.inr ⟨p, vs, xs, rfl, rfl, e2, rp⟩)⟩
end
theorem je_c {e : Expr} {v : V} {d : D} (h : PE X e (tC v)) (hr : ∀ wd, Rep X.K wd v d) : JE T X E e (W.ret d) :=
  peI h fun σ H Q ⟨c, wd, env, P, Ex, r, h, _, k⟩ => k d env h v wd H (Le.refl _) r (hr wd)
theorem je_int {i j pos} : JE T X E (.Constant (.int i) j pos) (W.ret (.int i)) := je_c pe_int fun _ => .int i
theorem je_bl {b j pos} : JE T X E (.Constant (.bool b) j pos) (W.ret (.bl b)) := je_c pe_bl fun _ => .bl b
theorem je_non {j pos} : JE T X E (.Constant .none j pos) (W.ret .non) := je_c pe_non fun _ => .non
theorem je_str {x j pos} : JE T X E (.Constant (.str x) j pos) (W.ret (.str x)) := je_c pe_str fun _ => .str x
theorem je_gint {x : Str} {pos : Pos} {i : Int} (hg : Gl X x) (hm : ∃ t, X.mg x = some (.int i t)) (hd : (x == ("__debug__" : Str)) = false := by decide) : JE T X E (.Name x pos) (W.ret (.int i)) := by
  obtain ⟨t, hm⟩ := hm
  exact je_c (v := .int i) (pe_glob hg hm ⟨t, rfl⟩ hd) fun _ => .int i
theorem je_b {e : Expr} {w : W D} (h : JE T X E e w) : JB T X E e w :=
  peI h fun σ H Q ⟨c, wd, env, P, Ex, r, h, xo, k⟩ => ⟨c, wd, env, P, Ex, r, h, xo, fun a env' p b wd' H' le r' rp => k a env' p b wd' H' le r' (.inl rp)⟩
def wLst (w : W (List D)) : W D := w.bind fun xs => .ret (.lst xs)
theorem jf_e {e : Expr} {w : W (List D)} (h : JF T X E e w) : JE T X E e (wLst w) :=
  peI h fun σ H Q ⟨c, wd, env, P, Ex, r, h, xo, k⟩ => ⟨c, wd, env, fun xs env' => P (.lst xs) env', Ex, r, h, xo, fun xs env' p b wd' H' le r' rp => by
    obtain ⟨q, vs, rfl, h1, h2, h3, h4, h5, h6, h7⟩ := rp
    have le' : Le wd' (wd'.add q (.lst vs)) := Le.add h2
    refine k _ env' p (.ref q) (wd'.add q (.lst vs)) H' (le.trans le') ?_ (.lst upd_same (h5.mono le'))
    have uq : ∀ {a : Addr} {o : HO}, (wd'.add q (.lst vs)).M a = some o → (a = q ∧ o = .lst vs) ∨ wd'.M a = some o := fun {a o} z => by
      by_cases ha : a = q
      · subst ha
        have z' : upd wd'.M a (.lst vs) a = some o := z
        rw [upd_same] at z'
        cases z'
        exact .inl ⟨rfl, rfl⟩
      · have z' : upd wd'.M q (.lst vs) a = some o := z
        rw [upd_ne ha] at z'
        exact .inr z'
    refine ⟨⟨r'.ord.le.trans le', fun a o z => ?_, r'.ord.fb⟩, ⟨fun a o z => ?_, fun a o z => ?_, fun b hb => ?_, r'.good.tab, r'.good.siz⟩, r'.keep, r'.len, fun i d z => ?_, fun i ys z => ?_, r'.sep, fun qq hq => ?_, r'.ext.addM h2 h6.c h1⟩
    · rcases uq z with ⟨rfl, rfl⟩ | z
      · exact .inr (.inl h4)
      · exact r'.ord.fm a o z
    · rcases uq z with ⟨rfl, rfl⟩ | z
      · exact h1
      · exact r'.good.sub a o z
    · rcases uq z with ⟨rfl, rfl⟩ | z
      · exact ⟨noTb_lst, r'.good.siz _ _ h1⟩
      · exact r'.good.ntb a o z
    · obtain ⟨z1, z2⟩ := r'.good.box b hb
      refine ⟨?_, z2⟩
      show upd wd'.M q (.lst vs) b = none
      rw [upd_ne (show b ≠ q from fun z => h3 (z ▸ hb))]
      exact z1
    · obtain ⟨v, y1, y2⟩ := r'.dat i d z
      exact ⟨v, y1, y2.mono le'⟩
    · obtain ⟨p2, us, y1, y2, y3, y4, y5, y6⟩ := r'.own i ys z
      refine ⟨p2, us, y1, y2, ?_, y4, y5, y6.mono le'⟩
      show upd wd'.M q (.lst vs) p2 = none
      rw [upd_ne (show p2 ≠ q from fun zz => h6.o i ys z (by rw [← zz]; exact y1))]
      exact y3
    · obtain ⟨y1, y2, y3, y4⟩ := r'.pin qq hq
      refine ⟨y1, ?_, y3, y4⟩
      show upd wd'.M q (.lst vs) qq.1 = none
      rw [upd_ne (show qq.1 ≠ q from fun zz => h7 qq hq zz)]
      exact y2⟩
theorem Rel.fresh {K : PySem.W.Frag} {c : Ctx} {wd : Wd} {env : PEnv} {σ : L2.St} {H : Hp} (r : Rel K T c wd env σ H) {p : Addr} {vs : List V} {xs : List D} (hp : H p = none) (h : Reps K wd vs xs) (hz : vs.length ≤ sizeLine) :
    Rel K T c wd env σ (upd H p (.lst vs)) ∧ rF K c wd env σ (upd H p (.lst vs)) (.ref p) xs := by
  have hm := r.good.mnone hp
  have hb : p ∉ wd.B := fun z => by
    obtain ⟨_, g, s, c', e, _⟩ := r.good.box p z
    rw [hp] at e
    cases e
  have gd : Good T wd (upd H p (.lst vs)) := by
    refine ⟨fun a o e => ?_, r.good.ntb, fun b hb => ?_, r.good.tab.ext fun b u e => ?_, siz_upd r.good.siz hz⟩
    · have := r.good.sub a o e
      rw [upd_ne (ne_of_none this hp)]
      exact this
    · obtain ⟨h1, g, s, c', h2, h3⟩ := r.good.box b hb
      exact ⟨h1, g, s, c', by rw [upd_ne (ne_of_none h2 hp)]; exact h2, h3⟩
    · rw [upd_ne (ne_of_none e hp)]
      exact e
  refine ⟨r.go (Ord.refl _ _) gd (Keep.add hp), p, vs, rfl, upd_same, hm, hb, r.keep.dm p (Nt.of hp), h, ⟨fun i ys e z => ?_, r.ext.noNone hp⟩, fun q hq z => ?_⟩
  · obtain ⟨q, us, h1, h2, _⟩ := r.own i ys e
    rw [h1] at z
    cases z
    rw [hp] at h2
    cases h2
  · have := (r.pin q hq).1
    rw [z, hp] at this
    cases this

def wNil : W (List D) := .ret []
def wCons (a : W D) (r : W (List D)) : W (List D) := a.bind fun x => r.bind fun xs => .ret (x :: xs)
theorem ja_nil : JA T X E [] wNil := paI pa_nil fun σ H Q ⟨c, wd, env, P, Ex, r, h, _, k⟩ => k [] env h [] wd H (Le.refl _) r .nil
theorem ja_cons {e : Expr} {es : List Expr} {a : W D} {w : W (List D)} (ha : JE T X E e a) (hr : JA T X E es w) (hs : starEach (e :: es) X.env = (false, eval e X.env) :: starEach es X.env := by rfl) : JA T X E (e :: es) (wCons a w) :=
  paI (pa_cons ha hr hs) fun σ H Q ⟨c, wd, env, P, Ex, r, h, xo, k⟩ =>
    ⟨c, wd, env, _, Ex, r, h, xo, fun x env1 h1 v wd1 H1 le1 r1 rp1 => ⟨c, wd1, env1, _, Ex, r1, h1, xo, fun xs env2 h2 vs wd2 H2 le2 r2 rp2 => k _ env2 h2 (v :: vs) wd2 H2 (le1.trans le2) r2 (.cons (rp1.mono le2) rp2)⟩⟩
def wTup (w : W (List D)) : W D := w.bind fun xs env Q _ => xs.length ≤ 1000000 ∧ Q (.tup xs) env
theorem sz6 {n : Nat} (h : n ≤ 1000000) : n ≤ sizeLine := Nat.le_trans h (by decide)
theorem je_tup {es : List Expr} {w : W (List D)} {x1} {pos : Pos} (h : JA T X E es w) : JE T X E (.Tuple es x1 pos) (wTup w) :=
  peI (pe_tup h) fun σ H Q ⟨c, wd, env, P, Ex, r, h, xo, k⟩ =>
    ⟨c, wd, env, _, Ex, r, h, xo, fun xs env1 h1 vs wd1 H1 le1 r1 rp1 => by
      have hz : vs.length ≤ sizeLine := by rw [rp1.length]; exact sz6 h1.1
      refine ⟨hz, fun p hp => ?_⟩
      have g : Grow wd1 H1 (wd1.add p (.tup vs)) (upd H1 p (.tup vs)) := Grow.one hp noTb_tup hz
      have le2 : Le wd1 (wd1.add p (.tup vs)) := Le.add (r1.good.mnone hp)
      exact k _ env1 h1.2 (.ref p) _ _ (le1.trans le2) (r1.grow g) (.tup upd_same (rp1.mono le2))⟩
def wSz (w : W (List D)) : W (List D) := w.bind fun xs env Q _ => xs.length ≤ 1000000 ∧ Q xs env
theorem jf_lst {es : List Expr} {w : W (List D)} {pos : Pos} (h : JA T X E es w) : JF T X E (.List es pos) (wSz w) :=
  peI (pe_lst h) fun σ H Q ⟨c, wd, env, P, Ex, r, h, xo, k⟩ =>
    ⟨c, wd, env, _, Ex, r, h, xo, fun xs env1 h1 vs wd1 H1 le1 r1 rp1 => by
      have hz : vs.length ≤ sizeLine := by rw [rp1.length]; exact sz6 h1.1
      refine ⟨hz, fun p hp => ?_⟩
      obtain ⟨r2, f⟩ := r1.fresh hp rp1 hz
      exact k _ env1 h1.2 (.ref p) _ _ le1 r2 f⟩

def Del (K : PySem.W.Frag) (wd : Wd) (H : Hp) (z : D) (Q : VK) : Prop := ∀ w wd' H', Grow wd H wd' H' → Rep K wd' w z → Q w H'
theorem Grow.le {T : List (Addr × Str)} {wd wd' : Wd} {H H' : Hp} (g : Grow wd H wd' H') (o : Good T wd H) : Le wd wd' := (g.all o).2.1.le
theorem Del.now {K : PySem.W.Frag} {wd : Wd} {H : Hp} {z : D} {Q : VK} {w : V} (d : Del K wd H z Q) (r : Rep K wd w z) : Q w H := d w wd H (.refl _ _) r
theorem Del.tup {K : PySem.W.Frag} {wd : Wd} {H : Hp} {xs : List D} {Q : VK} {p : Addr} {vs : List V} (d : Del K wd H (.tup xs) Q) (g : Good T wd H) (hp : H p = none) (r : Reps K wd vs xs) (hz : vs.length ≤ sizeLine) : Q (.ref p) (upd H p (.tup vs)) :=
  d (.ref p) _ _ (Grow.one hp noTb_tup hz) (.tup upd_same (r.mono (Le.add (g.mnone hp))))
theorem Del.lst {K : PySem.W.Frag} {wd : Wd} {H : Hp} {xs : List D} {Q : VK} {p : Addr} {vs : List V} (d : Del K wd H (.lst xs) Q) (g : Good T wd H) (hp : H p = none) (r : Reps K wd vs xs) (hz : vs.length ≤ sizeLine) : Q (.ref p) (upd H p (.lst vs)) :=
  d (.ref p) _ _ (Grow.one hp noTb_lst hz) (.lst upd_same (r.mono (Le.add (g.mnone hp))))
structure OpD (X : Cx) (f : Value → Value → Sem Value) (g : D → D → Option D) : Prop where
  ex : ∃ r : R2, OpR X f r ∧ ∀ (x y z : D), g x y = some z → ∀ (T : List (Addr × Str)) (wd : Wd) (H : Hp) (v u : V) (Q : VK), Good T wd H → Rep X.K wd v x → Rep X.K wd u y → Del X.K wd H z Q → r v u H Q
def wBin (g : D → D → Option D) (a b : W D) : W D := a.bind fun x => b.bind fun y => .opt (g x y)
theorem opt_inv {α : Type} {o : Option α} {env : PEnv} {Q : α → PEnv → Prop} {ex : Xc → Prop} (h : W.opt o env Q ex) : ∃ a, o = some a ∧ Q a env := by
  unfold W.opt at h
  split at h
  · exact ⟨_, rfl, h⟩
  · exact h.elim
theorem lift_bin {K : PySem.W.Frag} {r : R2} {g : D → D → Option D} {a b : W D} {σ : L2.St} {H : Hp} {Q : VK}
    (ho : ∀ (x y z : D), g x y = some z → ∀ (T : List (Addr × Str)) (wd : Wd) (H : Hp) (v u : V) (Q : VK), Good T wd H → Rep K wd v x → Rep K wd u y → Del K wd H z Q → r v u H Q)
    (h : lift K T (rE K) E (wBin g a b) σ H Q) : tOp r (lift K T (rE K) E a) (lift K T (rE K) E b) σ H Q := by
  obtain ⟨c, wd, env, P, Ex, rl, h, xo, k⟩ := h
  refine ⟨c, wd, env, _, Ex, rl, h, xo, fun x env1 h1 v wd1 H1 le1 r1 rp1 => ⟨c, wd1, env1, _, Ex, r1, h1, xo, fun y env2 h2 u wd2 H2 le2 r2 rp2 => ?_⟩⟩
  obtain ⟨z, e, hz⟩ := opt_inv h2
  exact ho x y z e T wd2 H2 v u Q r2.good (Rep.mono le2 rp1) rp2 fun w wd3 H3 g3 rp3 => k z env2 hz w wd3 H3 ((le1.trans le2).trans (g3.le r2.good)) (r2.grow g3) rp3
theorem je_bin {op : Operator} {g : D → D → Option D} {x y : Expr} {a b : W D} {pos : Pos} (ho : OpD X (binaryOp op) g) (ha : JE T X E x a) (hb : JE T X E y b) : JE T X E (.BinOp x op y pos) (wBin g a b) := by
  obtain ⟨r, hr, hq⟩ := ho.ex
  exact peI (pe_op hr ha hb) fun σ H Q h => lift_bin hq h
theorem je_cmp {op : CmpOp} {g : D → D → Option D} {x y : Expr} {a b : W D} {pos : Pos} (ho : OpD X (compareOp op) g) (ha : JE T X E x a) (hb : JE T X E y b) (hm : behindInMarks op y = false) : JE T X E (.Compare x [op] [y] pos) (wBin g a b) := by
  obtain ⟨r, hr, hq⟩ := ho.ex
  exact peI (pe_cmpR hr ha hb hm) fun σ H Q h => lift_bin hq h
end
end Pd

namespace Pd
open PySem PySem.Spec PyProof.Rows L2 LamX
section
variable {X : Cx} {T : List (Addr × Str)} {E : XK}
def wChain (g g' : D → D → Option D) (a b m : W D) : W D := a.bind fun x => b.bind fun y => (W.opt (g x y)).bind fun z env Q ex => match z with
  | .bl t => br t ((m.bind fun w => .opt (g' y w)) env Q ex) (Q (.bl false) env)
  | _ => False
theorem je_chain {op op' : CmpOp} {g g' : D → D → Option D} {x y z : Expr} {a b m : W D} {pos : Pos} (ho : OpD X (compareOp op) g) (ho' : OpD X (compareOp op') g') (ha : JE T X E x a) (hb : JE T X E y b) (hm : JE T X E z m)
    (hl : lastMarks [op, op'] [y, z] = false := by with_unfolding_all rfl) : JE T X E (.Compare x [op, op'] [y, z] pos) (wChain g g' a b m) := by
  obtain ⟨r, hr, hq⟩ := ho.ex
  obtain ⟨r', hr', hq'⟩ := ho'.ex
  refine peI (pe_chain hr hr' ha hb hm hl) fun σ H Q ⟨c, wd, env, P, Ex, rl, h, xo, k⟩ => ?_
  refine ⟨c, wd, env, _, Ex, rl, h, xo, fun x1 env1 h1 v wd1 H1 le1 r1 rp1 => ⟨c, wd1, env1, _, Ex, r1, h1, xo, fun y1 env2 h2 u wd2 H2 le2 r2 rp2 => ?_⟩⟩
  obtain ⟨z1, e, h3⟩ := opt_inv h2
  refine hq x1 y1 z1 e T wd2 H2 v u _ r2.good (rp1.mono le2) rp2 fun w wd3 H3 g3 rp3 => ?_
  have le3 := g3.le r2.good
  have r3 := r2.grow g3
  split at h3
  · rename_i t
    cases rp3
    cases t
    · have h3 := br_f h3
      exact ⟨false, rfl, k _ env2 h3 _ wd3 H3 ((le1.trans le2).trans le3) r3 (.bl false)⟩
    have h3 := br_t h3
    refine ⟨true, rfl, ?_⟩
    show lift X.K T (rE X.K) E m σ H3 _
    refine ⟨c, wd3, env2, _, Ex, r3, h3, xo, fun w1 env4 h4 u4 wd4 H4 le4 r4 rp4 => ?_⟩
    obtain ⟨z2, e2, h5⟩ := opt_inv h4
    exact hq' y1 w1 z2 e2 T wd4 H4 u u4 Q r4.good ((rp2.mono le3).mono le4) rp4 fun w5 wd5 H5 g5 rp5 => k z2 env4 h5 w5 wd5 H5 ((((le1.trans le2).trans le3).trans le4).trans (g5.le r4.good)) (r4.grow g5) rp5
  · exact h3.elim

def wAnd (a b : W D) : W D := a.bind fun x env Q ex => match x with
  | .bl t => br t (b env Q ex) (Q (.bl false) env)
  | _ => False
def wNot (a : W D) : W D := a.bind fun x env Q ex => match x with
  | .bl b => Q (.bl (!b)) env
  | _ => False
theorem je_one {op} {x : Expr} {a : W D} {pos : Pos} (h : JE T X E x a) : JE T X E (.BoolOp op [x] pos) a := pe_one h
theorem je_and {x y : Expr} {rest : List Expr} {a b : W D} {pos : Pos} (ha : JE T X E x a) (hb : JE T X E (.BoolOp .And (y :: rest) pos) b) : JE T X E (.BoolOp .And (x :: y :: rest) pos) (wAnd a b) :=
  peI (pe_and ha hb) fun σ H Q ⟨c, wd, env, P, Ex, rl, h, xo, k⟩ => ⟨c, wd, env, _, Ex, rl, h, xo, fun x1 env1 h1 v wd1 H1 le1 r1 rp1 => by
    dsimp only at h1
    split at h1
    · rename_i t
      cases rp1
      cases t
      · exact ⟨false, rfl, k _ env1 (br_f h1) _ wd1 H1 le1 r1 (.bl false)⟩
      · exact ⟨true, rfl, c, wd1, env1, P, Ex, r1, br_t h1, xo, fun a1 env2 p b1 wd2 H2 le2 => k a1 env2 p b1 wd2 H2 (le1.trans le2)⟩
    · exact h1.elim⟩
theorem je_not {x : Expr} {a : W D} {pos : Pos} (ha : JE T X E x a) : JE T X E (.UnaryOp .Not x pos) (wNot a) :=
  peI (pe_not ha) fun σ H Q ⟨c, wd, env, P, Ex, rl, h, xo, k⟩ => ⟨c, wd, env, _, Ex, rl, h, xo, fun x1 env1 h1 v wd1 H1 le1 r1 rp1 => by
    dsimp only at h1
    split at h1
    · cases rp1
      exact ⟨_, rfl, k _ env1 h1 _ wd1 H1 le1 r1 (.bl _)⟩
    · exact h1.elim⟩
def wTest (a : W D) : W Bool := a.bind fun x env Q ex => match x with
  | .bl b => Q b env
  | _ => False
def tAndP (a b : W Bool) : W Bool := a.bind fun x env Q ex => br x (b env Q ex) (Q false env)
def tOrP (a b : W Bool) : W Bool := a.bind fun x env Q ex => br x (Q true env) (b env Q ex)
def tNotP (a : W Bool) : W Bool := a.bind fun x => .ret (!x)
theorem jt_val {x : Expr} {a : W D} (ha : JE T X E x a) (he : ∀ whole, isTrue x X.env whole = (do let v ← whole; standAt x.pos; holding [v] (truthy v)) := by intro _; rfl) : JT T X E x (wTest a) :=
  ptI (pt_val ha he) fun σ H Q ⟨c, wd, env, P, Ex, rl, h, xo, k⟩ => ⟨c, wd, env, _, Ex, rl, h, xo, fun x1 env1 h1 v wd1 H1 le1 r1 rp1 => by
    dsimp only at h1
    split at h1
    · cases rp1
      exact ⟨_, rfl, k _ env1 h1 _ wd1 H1 le1 r1 rfl⟩
    · exact h1.elim⟩
theorem jt_not {x : Expr} {a : W Bool} {pos : Pos} (ha : JT T X E x a) : JT T X E (.UnaryOp .Not x pos) (tNotP a) :=
  ptI (pt_not ha) fun σ H Q ⟨c, wd, env, P, Ex, rl, h, xo, k⟩ => ⟨c, wd, env, _, Ex, rl, h, xo, fun x1 env1 h1 v wd1 H1 le1 r1 rp1 => by
    cases (show v = x1 from rp1)
    exact k _ env1 h1 _ wd1 H1 le1 r1 rfl⟩
theorem jw_and1 {x : Expr} {a : W Bool} {pos : Pos} (ha : JT T X E x a) : JW T X E (.BoolOp .And [x] pos) a := pw_and1 ha
theorem jw_or1 {x : Expr} {a : W Bool} {pos : Pos} (ha : JT T X E x a) : JW T X E (.BoolOp .Or [x] pos) a := pw_or1 ha
theorem jw_and {x y : Expr} {rest : List Expr} {a b : W Bool} {pos : Pos} (ha : JT T X E x a) (hb : JW T X E (.BoolOp .And (y :: rest) pos) b) : JW T X E (.BoolOp .And (x :: y :: rest) pos) (tAndP a b) :=
  pwI (pw_and ha hb) fun σ H Q ⟨c, wd, env, P, Ex, rl, h, xo, k⟩ => ⟨c, wd, env, _, Ex, rl, h, xo, fun x1 env1 h1 v wd1 H1 le1 r1 rp1 => by
    obtain rfl : v = x1 := rp1
    cases v with
    | true => exact ⟨c, wd1, env1, P, Ex, r1, br_t h1, xo, fun a1 env2 p b1 wd2 H2 le2 => k a1 env2 p b1 wd2 H2 (le1.trans le2)⟩
    | false => exact k _ env1 (br_f h1) _ wd1 H1 le1 r1 rfl⟩
theorem jw_or {x y : Expr} {rest : List Expr} {a b : W Bool} {pos : Pos} (ha : JT T X E x a) (hb : JW T X E (.BoolOp .Or (y :: rest) pos) b) : JW T X E (.BoolOp .Or (x :: y :: rest) pos) (tOrP a b) :=
  pwI (pw_or ha hb) fun σ H Q ⟨c, wd, env, P, Ex, rl, h, xo, k⟩ => ⟨c, wd, env, _, Ex, rl, h, xo, fun x1 env1 h1 v wd1 H1 le1 r1 rp1 => by
    obtain rfl : v = x1 := rp1
    cases v with
    | true => exact k _ env1 (br_t h1) _ wd1 H1 le1 r1 rfl
    | false => exact ⟨c, wd1, env1, P, Ex, r1, br_f h1, xo, fun a1 env2 p b1 wd2 H2 le2 => k a1 env2 p b1 wd2 H2 (le1.trans le2)⟩⟩
theorem jt_bool {x : Expr} {a : W Bool} (h : JW T X E x a) : JT T X E x a := h.pt
theorem jt_cmp {op : CmpOp} {g : D → D → Option D} {x y : Expr} {a b : W D} {pos : Pos} (ho : OpD X (compareOp op) g) (ha : JE T X E x a) (hb : JE T X E y b) (hm : behindInMarks op y = false) : JT T X E (.Compare x [op] [y] pos) (wTest (wBin g a b)) := by
  obtain ⟨r, hr, hq⟩ := ho.ex
  refine ptI (pt_cmpR hr ha hb hm) fun σ H Q ⟨c, wd, env, P, Ex, rl, h, xo, k⟩ => lift_bin hq ⟨c, wd, env, _, Ex, rl, h, xo, fun x1 env1 h1 v wd1 H1 le1 r1 rp1 => ?_⟩
  dsimp only at h1
  split at h1
  · cases rp1
    exact ⟨_, rfl, k _ env1 h1 _ wd1 H1 le1 r1 rfl⟩
  · exact h1.elim
theorem jt_chain {op op' : CmpOp} {g g' : D → D → Option D} {x y z : Expr} {a b m : W D} {pos : Pos} (ho : OpD X (compareOp op) g) (ho' : OpD X (compareOp op') g') (ha : JE T X E x a) (hb : JE T X E y b) (hm : JE T X E z m)
    (hl : lastMarks [op, op'] [y, z] = false := by with_unfolding_all rfl) : JT T X E (.Compare x [op, op'] [y, z] pos) (wTest (wChain g g' a b m)) := by
  obtain ⟨r, hr, hq⟩ := ho.ex
  obtain ⟨r', hr', hq'⟩ := ho'.ex
  refine ptI (pt_chain hr hr' ha hb hm hl) fun σ H Q ⟨c, wd, env, P, Ex, rl, h, xo, k⟩ => ?_
  refine ⟨c, wd, env, _, Ex, rl, h, xo, fun x1 env1 h1 v wd1 H1 le1 r1 rp1 => ⟨c, wd1, env1, _, Ex, r1, h1, xo, fun y1 env2 h2 u wd2 H2 le2 r2 rp2 => ?_⟩⟩
  obtain ⟨z1, e, h3⟩ := opt_inv h2
  refine hq x1 y1 z1 e T wd2 H2 v u _ r2.good (rp1.mono le2) rp2 fun w wd3 H3 g3 rp3 => ?_
  have le3 := g3.le r2.good
  have r3 := r2.grow g3
  split at h3
  · rename_i t
    cases rp3
    cases t
    · have h3 := br_f h3
      exact ⟨false, rfl, false, rfl, k _ env2 h3 _ wd3 H3 ((le1.trans le2).trans le3) r3 rfl⟩
    have h3 := br_t h3
    refine ⟨true, rfl, ?_⟩
    show lift X.K T (rE X.K) E m σ H3 _
    refine ⟨c, wd3, env2, _, Ex, r3, h3, xo, fun w1 env4 h4 u4 wd4 H4 le4 r4 rp4 => ?_⟩
    obtain ⟨z2, e2, h5⟩ := opt_inv h4
    refine hq' y1 w1 z2 e2 T wd4 H4 u u4 _ r4.good ((rp2.mono le3).mono le4) rp4 fun w5 wd5 H5 g5 rp5 => ?_
    split at h5
    · cases rp5
      exact ⟨_, rfl, k _ env4 h5 _ wd5 H5 ((((le1.trans le2).trans le3).trans le4).trans (g5.le r4.good)) (r4.grow g5) rfl⟩
    · exact h5.elim
  · exact h3.elim
def wIf {α : Type} (t : W Bool) (a b : W α) : W α := t.bind fun x env Q ex => br x (a env Q ex) (b env Q ex)
theorem je_if {t x y : Expr} {w : W Bool} {a b : W D} {pos : Pos} (ht : JT T X E t w) (ha : JE T X E x a) (hb : JE T X E y b) : JE T X E (.IfExp t x y pos) (wIf w a b) :=
  peI (pe_ifExp ht ha hb) fun σ H Q ⟨c, wd, env, P, Ex, rl, h, xo, k⟩ => ⟨c, wd, env, _, Ex, rl, h, xo, fun x1 env1 h1 v wd1 H1 le1 r1 rp1 => by
    obtain rfl : v = x1 := rp1
    cases v with
    | true => exact ⟨c, wd1, env1, P, Ex, r1, br_t h1, xo, fun a1 env2 p b1 wd2 H2 le2 => k a1 env2 p b1 wd2 H2 (le1.trans le2)⟩
    | false => exact ⟨c, wd1, env1, P, Ex, r1, br_f h1, xo, fun a1 env2 p b1 wd2 H2 le2 => k a1 env2 p b1 wd2 H2 (le1.trans le2)⟩⟩
def wNeg (a : W D) : W D := a.bind fun x env Q ex => match x with
  | .int i => Q (.int (-i)) env
  | _ => False
theorem je_neg {x : Expr} {a : W D} {pos : Pos} (ha : JE T X E x a) : JE T X E (.UnaryOp .USub x pos) (wNeg a) :=
  peI (pe_un un_neg ha) fun σ H Q ⟨c, wd, env, P, Ex, rl, h, xo, k⟩ => ⟨c, wd, env, _, Ex, rl, h, xo, fun x1 env1 h1 v wd1 H1 le1 r1 rp1 => by
    dsimp only at h1
    split at h1
    · cases rp1
      exact ⟨_, rfl, k _ env1 h1 _ wd1 H1 le1 r1 (.int _)⟩
    · exact h1.elim⟩
def dIdx : D → D → Option D
  | .tup xs, .int i => atI xs i
  | .lst xs, .int i => atI xs i
  | .scr ns, .int i => (atI ns i).map D.int
  | _, _ => none
theorem atI_reps {K : PySem.W.Frag} {wd : Wd} {vs : List V} {ds : List D} {i : Int} {d : D} (r : Reps K wd vs ds) (h : atI ds i = some d) : ∃ v, atI vs i = some v ∧ Rep K wd v d := by
  unfold atI at h ⊢
  rw [r.length]
  cases e : ixN ds.length i with
  | none =>
    rw [e] at h
    cases h
  | some j =>
    rw [e] at h
    exact r.get h
theorem sub_sqL {K : PySem.W.Frag} {wd : Wd} {H : Hp} {p : Addr} {vs : List V} (g : Good T wd H) (h : wd.M p = some (.lst vs)) : SqL K H p vs := .inl (.inl (g.sub _ _ h))
theorem sub_sqS {K : PySem.W.Frag} {wd : Wd} {H : Hp} {p : Addr} {vs : List V} (g : Good T wd H) (h : SqL K wd.M p vs) : SqL K H p vs := sqL_mono K g.sub h
theorem sub_sqT {K : PySem.W.Frag} {wd : Wd} {H : Hp} {p : Addr} {vs : List V} (g : Good T wd H) (h : wd.M p = some (.tup vs)) : SqT K H p vs := .inl (.inl (g.sub _ _ h))
def wIxOwn (i : Nat) (b : W D) : W D := fun env Q ex => match gt env i with
  | some (.own _) => (b.bind fun y env Q ex => match gt env i with
    | some (.own xs) => ∃ z, dIdx (.lst xs) y = some z ∧ Q z env
    | _ => False) env Q ex
  | _ => False
theorem je_ixOwn (i : Nat) {x : Str} {y : Expr} {b : W D} {pos p1 : Pos} (hb : JE T X E y b) (hs : PlainIx y) (hN : X.N[i]? = some x := by rfl) (hv : Vis X.env.scope x := by first | exact Or.inl rfl | exact Or.inr (Or.inl rfl) | exact Or.inr (Or.inr rfl)) (hd : (x == ("__debug__" : Str)) = false := by decide)
    (hcd : (x == ("__classdict__" : Str)) = false := by decide) : JE T X E (.Subscript (.Name x p1) y pos) (wIxOwn i b) := by
  refine peI (pe_ix ix_list (pe_var hN hv hd hcd) hb hs) fun σ H Q ⟨c, wd, env, P, Ex, rl, h, xo, k⟩ => ?_
  unfold wIxOwn at h
  split at h
  · rename_i xs0 e0
    obtain ⟨p0, vs0, z0, _⟩ := rl.own i xs0 (gt_eq _ _ e0)
    refine ⟨.ref p0, z0, c, wd, env, _, Ex, rl, h, xo, fun y1 env1 h1 u wd1 H1 le1 r1 rp1 => ?_⟩
    dsimp only at h1
    split at h1
    · rename_i xs e1
      obtain ⟨p, vs, z1, z2, z3, z4, z5, z6⟩ := r1.own i xs (gt_eq _ _ e1)
      rw [z0] at z1
      cases z1
      obtain ⟨z, e2, h2⟩ := h1
      cases rp1 <;> first | cases e2 | skip
      obtain ⟨w, e3, r3⟩ := atI_reps z6 e2
      exact ⟨_, vs, _, w, rfl, rfl, .inl (.inl z2), e3, k z env1 h2 w wd1 H1 le1 r1 r3⟩
    · exact h1.elim
  · exact h.elim
abbrev JO (T : List (Addr × Str)) (X : Cx) (E : XK) (e : Option Expr) (w : W (Option Int)) : Prop := PO X e (lift X.K T (fun _ _ _ _ _ b a => b = a) E w)
def wPart (a : W D) : W (Option Int) := a.bind fun x env Q ex => match x with
  | .int i => Q (some i) env
  | _ => False
theorem poI {e : Option Expr} {t t' : TO} (h : PO X e t) (i : ∀ σ H Q, t' σ H Q → t σ H Q) : PO X e t' := ⟨fun pins s σ H Q I q => h.run pins s σ H Q I (i σ H Q q)⟩
theorem jo_none : JO T X E none (W.ret none) := poI po_none fun σ H Q ⟨c, wd, env, P, Ex, r, h, _, k⟩ => k _ env h _ wd H (Le.refl _) r rfl
theorem jo_some {x : Expr} {a : W D} (ha : JE T X E x a) : JO T X E (some x) (wPart a) :=
  poI (po_some ha) fun σ H Q ⟨c, wd, env, P, Ex, rl, h, xo, k⟩ => ⟨c, wd, env, _, Ex, rl, h, xo, fun x1 env1 h1 v wd1 H1 le1 r1 rp1 => by
    dsimp only at h1
    split at h1
    · cases rp1
      exact ⟨_, rfl, k _ env1 h1 _ wd1 H1 le1 r1 rfl⟩
    · exact h1.elim⟩
def cutD {α : Type} (xs : List α) (lo hi : Option Int) : List α := (xs.drop (HT.sIx xs.length 0 lo)).take (HT.sIx xs.length xs.length hi - HT.sIx xs.length 0 lo)
theorem cut_reps {K : PySem.W.Frag} {wd : Wd} {vs : List V} {ds : List D} (r : Reps K wd vs ds) (lo hi : Option Int) : Reps K wd (cutV vs lo hi) (cutD ds lo hi) := by
  unfold cutV cutD
  rw [r.length]
  exact (r.drop _).take _
theorem cut_len (vs : List V) (lo hi : Option Int) : (cutV vs lo hi).length ≤ vs.length := by
  unfold cutV
  rw [List.length_take, List.length_drop]
  omega
theorem siz_sqT {wd : Wd} {H : Hp} {p : Addr} {vs : List V} (g : Good T wd H) (h : wd.M p = some (.tup vs)) : vs.length ≤ sizeLine := (g.ntb _ _ h).2
def wSl (a : W D) (l h : W (Option Int)) : W D := a.bind fun x => l.bind fun lo => h.bind fun hi env Q ex => match x with
  | .tup xs => Q (.tup (cutD xs lo hi)) env
  | .lst xs => Q (.lst (cutD xs lo hi)) env
  | _ => False
theorem je_slice {x : Expr} {lo hi : Option Expr} {a : W D} {l h : W (Option Int)} {p2 pos : Pos} (ha : JE T X E x a) (hl : JO T X E lo l) (hh : JO T X E hi h) : JE T X E (.Subscript x (.Slice lo hi none p2) pos) (wSl a l h) := by
  refine peI (pe_slice (r := fun x lo hi H Q => rSlL X.K x lo hi H Q ∨ rSlA X.K x lo hi H Q) (sl_list.or sl_tupA) ha hl hh) fun σ H Q ⟨c, wd, env, P, Ex, rl, h, xo, k⟩ => ?_
  refine ⟨c, wd, env, _, Ex, rl, h, xo, fun x1 env1 h1 v wd1 H1 le1 r1 rp1 => ⟨c, wd1, env1, _, Ex, r1, h1, xo, fun l1 env2 h2 lv wd2 H2 le2 r2 e2 => ?_⟩⟩
  obtain rfl : lv = l1 := e2
  refine ⟨c, wd2, env2, _, Ex, r2, h2, xo, fun l3 env3 h3 uv wd3 H3 le3 r3 e3 => ?_⟩
  obtain rfl : uv = l3 := e3
  have rp3 := Rep.mono le3 (Rep.mono le2 rp1)
  have le := (le1.trans le2).trans le3
  split at h3
  · cases rp3 with
    | tup hs rs =>
      have hq := sub_sqT (K := X.K) r3.good hs
      refine .inr ⟨_, _, rfl, hq, ?_⟩
      have key : ∀ w wd' H', Grow wd3 H3 wd' H' → Rep X.K wd' w (.tup (cutD _ lv uv)) → Q w H' := fun w wd' H' g rp => k _ env3 h3 w wd' H' (le.trans (g.le r3.good)) (r3.grow g) rp
      have dd : Del X.K wd3 H3 (.tup (cutD _ lv uv)) Q := key
      have rc := cut_reps rs lv uv
      have hz : (cutV _ lv uv).length ≤ sizeLine := Nat.le_trans (cut_len _ lv uv) (siz_sqT r3.good hs)
      refine ⟨fun z => dd.now (.tup hs ?_), fun z p hp => dd.tup r3.good hp rc hz⟩
      have e : cutV _ lv uv = _ := (show cutV _ lv uv = (List.take _ (List.drop _ _)) from rfl).trans (by rw [z.1, z.2, List.drop_zero, Nat.sub_zero, List.take_length])
      rw [e] at rc
      exact rc
  · cases rp3 with
    | lst hs rs =>
      have hq := sub_sqL (K := X.K) r3.good hs
      refine .inl ⟨_, _, rfl, hq, fun p hp => ?_⟩
      have dd : Del X.K wd3 H3 (.lst (cutD _ lv uv)) Q := fun w wd' H' g rp => k _ env3 h3 w wd' H' (le.trans (g.le r3.good)) (r3.grow g) rp
      exact dd.lst r3.good hp (cut_reps rs lv uv) (Nat.le_trans (cut_len _ lv uv) ((r3.good.ntb _ _ hs).2))
  · exact h3.elim
end
end Pd

namespace Pd
open PySem PySem.Spec PyProof.Rows L2 LamX

structure PEnds where
  nx : PEnv → Prop
  rt : D → Prop
  bk : PEnv → Prop := fun _ => False
  ct : PEnv → Prop := fun _ => False
  ex : Xc → Prop := fun _ => False
abbrev WS := PEnds → PEnv → Prop
section
variable (K : PySem.W.Frag) (T : List (Addr × Str))
structure EndsOk (c : Ctx) (wd : Wd) (E : XK) (pe : PEnds) (D : Ends) : Prop where
  ex : XOk K T c E pe.ex
  nx : ∀ env', pe.nx env' → ∀ (σ' : L2.St) (wd' : Wd) (H' : Hp), Le wd wd' → Rel K T c wd' env' σ' H' → D.nx σ' H'
  rt : ∀ d, pe.rt d → ∀ (v : V) (wd' : Wd) (H' : Hp), Ord c.wd wd' c.H → Good T wd' H' → Keep c.wd c.H H' → Rep K wd' v d → D.rt v H'
  bk : ∀ env', pe.bk env' → ∀ (σ' : L2.St) (wd' : Wd) (H' : Hp), Le wd wd' → Rel K T c wd' env' σ' H' → D.bk σ' H'
  ct : ∀ env', pe.ct env' → ∀ (σ' : L2.St) (wd' : Wd) (H' : Hp), Le wd wd' → Rel K T c wd' env' σ' H' → D.ct σ' H'
def liftS (E : XK) (w : WS) : TS := fun D σ H => ∃ (c : Ctx) (wd : Wd) (env : PEnv) (pe : PEnds), Rel K T c wd env σ H ∧ w pe env ∧ EndsOk K T c wd E pe D
end
theorem EndsOk.mono {K : PySem.W.Frag} {T : List (Addr × Str)} {c : Ctx} {wd wd1 : Wd} {E : XK} {pe : PEnds} {D : Ends} (o : EndsOk K T c wd E pe D) (le : Le wd wd1) : EndsOk K T c wd1 E pe D :=
  ⟨o.ex, fun e h σ w H l => o.nx e h σ w H (le.trans l), o.rt, fun e h σ w H l => o.bk e h σ w H (le.trans l), fun e h σ w H l => o.ct e h σ w H (le.trans l)⟩
abbrev JS (T : List (Addr × Str)) (X : Cx) (E : XK) (st : Stmt) (w : WS) : Prop := PS X st (liftS X.K T E w)
abbrev JSs (T : List (Addr × Str)) (X : Cx) (E : XK) (sts : List Stmt) (w : WS) : Prop := PSs X sts (liftS X.K T E w)
structure Bd (X : Cx) (E : XK) (k : Nat) : Prop where
  room : Room k X.A
  pass : Passes (L2.CX X.prog X.w) X E
  own : PassesOwn (model X.prog X.w) X.A X.env X.xe
  calm : X.calm = true
  nd : X.N.Nodup
section
variable {X : Cx} {T : List (Addr × Str)} {E : XK} {k : Nat}
theorem psI {st : Stmt} {t t' : TS} (h : PS X st t) (i : ∀ D σ H, t' D σ H → t D σ H) : PS X st t' := ⟨fun pins s σ H D I q => h.run pins s σ H D I (i D σ H q)⟩
theorem pssI {st : List Stmt} {t t' : TS} (h : PSs X st t) (i : ∀ D σ H, t' D σ H → t D σ H) : PSs X st t' := ⟨fun pins s σ H D I q => h.run pins s σ H D I (i D σ H q)⟩
def sSeq (a b : WS) : WS := fun pe env => a { pe with nx := b pe } env
def sNil : WS := fun pe env => pe.nx env
theorem jss_nil : JSs T X E [] sNil := pssI pss_nil fun D σ H ⟨c, wd, env, pe, r, h, o⟩ => o.nx env h σ wd H (Le.refl _) r
theorem jss_cons {st : Stmt} {sts : List Stmt} {a b : WS} (ha : JS T X E st a) (hb : JSs T X E sts b) : JSs T X E (st :: sts) (sSeq a b) :=
  pssI (pss_cons ha hb) fun D σ H ⟨c, wd, env, pe, r, h, o⟩ => ⟨c, wd, env, _, r, h, ⟨o.ex, fun env' hb σ' wd' H' le r' => ⟨c, wd', env', pe, r', hb, o.mono le⟩, o.rt, o.bk, o.ct⟩⟩
theorem jss_one {st : Stmt} {a : WS} (ha : JS T X E st a) : JSs T X E [st] a := pss_one ha
def sSet (i : Nat) (e : W D) : WS := fun pe env => e env (fun d env' => pe.nx (env'.set i (some (.d d)))) pe.ex
theorem js_set (i : Nat) {x : Str} {e : Expr} {w : W D} {pos pos' : Pos} (B : Bd X E k) (he : JE T X E e w) (hi : X.N[i]? = some x := by rfl) (hx : Loc X.env.scope x := by first | exact Or.inl rfl | exact Or.inr rfl) (hs : swapsWith e (some (.Name x pos')) pos.line X.env = pure false := by rfl)
    (hf : X.fn x = true ∨ X.env.scope.names.lookup x = some .local := by first | exact .inl rfl | exact .inr rfl) : JS T X E (.Assign [.Name x pos'] e pos) (sSet i w) :=
  psI (ps_set B.nd hi hx he hs hf) fun D σ H ⟨c, wd, env, pe, r, h, o⟩ => ⟨c, wd, env, _, _, r, h, o.ex, fun d env' h' v wd' H' le r' rp => o.nx _ h' _ wd' H' le (r'.set rp)⟩
def sSetOwn (i : Nat) (e : W (List D)) : WS := fun pe env => e env (fun xs env' => pe.nx (env'.set i (some (.own xs)))) pe.ex
theorem Rel.ownF {K : PySem.W.Frag} {c : Ctx} {wd : Wd} {env : PEnv} {σ : L2.St} {H : Hp} (r : Rel K T c wd env σ H) {i : Nat} {v : V} {xs : List D} (f : rF K c wd env σ H v xs) : Rel K T c wd (env.set i (some (.own xs))) (σ.set i (some v)) H := by
  obtain ⟨p, vs, rfl, h1, h2, h3, h4, h5, h6, h7⟩ := f
  refine ⟨r.ord, r.good, r.keep, by simp [r.len], fun j y e => ?_, fun j ys e => ?_, fun j l as bs q e1 e2 e3 e4 => ?_, fun q hq => ?_, r.ext.sl (fun j s e n1 n2 => ?_) fun j ys e => ?_⟩
  · rcases get_set e with ⟨rfl, e, hl⟩ | ⟨ne, e⟩
    · cases e
    · obtain ⟨w, z1, z2⟩ := r.dat j y e
      exact ⟨w, by rw [List.getElem?_set_ne ne]; exact z1, z2⟩
  · rcases get_set e with ⟨rfl, e, hl⟩ | ⟨ne, e⟩
    · cases e
      rw [r.len] at hl
      exact ⟨p, vs, List.getElem?_set_self hl, h1, h2, h3, h4, h5⟩
    · obtain ⟨q, us, z1, z2⟩ := r.own j ys e
      exact ⟨q, us, by rw [List.getElem?_set_ne ne]; exact z1, z2⟩
  · rcases get_set e1 with ⟨rfl, e, hl⟩ | ⟨ne1, e1⟩
    · rcases get_set e2 with ⟨rfl, e, hl⟩ | ⟨ne2, e2⟩
      · rfl
      · rw [r.len] at hl
        rw [List.getElem?_set_self hl] at e3
        cases e3
        rw [List.getElem?_set_ne ne2] at e4
        exact absurd e4 (h6.o _ _ e2)
    · rcases get_set e2 with ⟨rfl, e, hl⟩ | ⟨ne2, e2⟩
      · rw [r.len] at hl
        rw [List.getElem?_set_self hl] at e4
        cases e4
        rw [List.getElem?_set_ne ne1] at e3
        exact absurd e3 (h6.o _ _ e1)
      · rw [List.getElem?_set_ne ne1] at e3
        rw [List.getElem?_set_ne ne2] at e4
        exact r.sep j l as bs q e1 e2 e3 e4
  · obtain ⟨z1, z2, z3, z4⟩ := r.pin q hq
    refine ⟨z1, z2, z3, fun j ys e => ?_, z4.c.set_d fun _ z => nomatch z⟩
    rcases get_set e with ⟨rfl, e, hl⟩ | ⟨ne, e⟩
    · rw [r.len] at hl
      rw [List.getElem?_set_self hl]
      intro z
      exact h7 q hq (by cases z; rfl)
    · rw [List.getElem?_set_ne ne]
      exact z4.o j ys e
  · rcases get_set e with ⟨rfl, e, hl⟩ | ⟨ne, e⟩
    · cases e
      exact absurd rfl (n2 _)
    · exact ⟨e, List.getElem?_set_ne ne⟩
  · rcases get_set e with ⟨rfl, e, hl⟩ | ⟨ne, e⟩
    · rw [r.len] at hl
      exact .inr ⟨p, List.getElem?_set_self hl, h6.c⟩
    · exact .inl ⟨ys, e, List.getElem?_set_ne ne⟩
def sRet (e : W D) : WS := fun pe env => e env (fun d _ => pe.rt d) pe.ex
theorem js_ret {e : Expr} {w : W D} {pos : Pos} (he : JE T X E e w) : JS T X E (.Return (some e) pos) (sRet w) :=
  psI (ps_ret he) fun D σ H ⟨c, wd, env, pe, r, h, o⟩ => ⟨c, wd, env, _, _, r, h, o.ex, fun d env' h' v wd' H' le r' rp => o.rt d h' v wd' H' r'.ord r'.good r'.keep rp⟩
def sDrop (e : W D) : WS := fun pe env => e env (fun _ env' => pe.nx env') pe.ex
theorem js_expr {e : Expr} {w : W D} {pos : Pos} (he : JE T X E e w) (hs : swapsWith e none pos.line X.env = pure false := by rfl) : JS T X E (.Expr e pos) (sDrop w) :=
  psI (ps_expr he hs) fun D σ H ⟨c, wd, env, pe, r, h, o⟩ => ⟨c, wd, env, _, _, r, h, o.ex, fun d env' h' v wd' H' le r' rp => o.nx _ h' _ wd' H' le r'⟩
def sIf (t : W Bool) (a b : WS) : WS := fun pe env => t env (fun x env' => br x (a pe env') (b pe env')) pe.ex
theorem js_if {t : Expr} {x y : List Stmt} {w : W Bool} {a b : WS} {pos : Pos} (ht : JT T X E t w) (ha : JSs T X E x a) (hb : JSs T X E y b) : JS T X E (.If t x y pos) (sIf w a b) :=
  psI (ps_if ht ha hb) fun D σ H ⟨c, wd, env, pe, r, h, o⟩ => ⟨c, wd, env, _, _, r, h, o.ex, fun d env' h' v wd' H' le r' rp => by
    obtain rfl : v = d := rp
    cases v with
    | true => exact ⟨c, wd', env', pe, r', br_t h', o.mono le⟩
    | false => exact ⟨c, wd', env', pe, r', br_f h', o.mono le⟩⟩
def sWhile (t : W Bool) (b : WS) : WS := fun pe env => ∃ I : Nat → PEnv → Prop, (∃ m, I m env) ∧ ∀ m env, I m env → t env (fun x env1 => br x (b { pe with nx := fun env2 => ∃ m', m' < m ∧ I m' env2, ct := fun env2 => ∃ m', m' < m ∧ I m' env2, bk := pe.nx } env1) (pe.nx env1)) pe.ex
theorem js_while {t : Expr} {body : List Stmt} {w : W Bool} {b : WS} {pos : Pos} (B : Bd X E k) (ht : JT T X E t w) (hb : JSs T X E body b) : JS T X E (.While t body [] pos) (sWhile w b) :=
  psI (ps_while B.own ht hb) fun D σ H ⟨c, wd, env, pe, r, h, o⟩ => by
    obtain ⟨I, ⟨m0, i0⟩, hs⟩ := h
    refine ⟨fun m σ' H' => ∃ wd' env', Le wd wd' ∧ Rel X.K T c wd' env' σ' H' ∧ I m env', ⟨m0, wd, env, Le.refl _, r, i0⟩, fun m σ' H' ⟨wd', env', le, r', im⟩ => ?_⟩
    refine ⟨c, wd', env', _, _, r', hs m env' im, o.ex, fun x env1 h1 v wd1 H1 le1 r1 rp1 => ?_⟩
    obtain rfl : v = x := rp1
    cases v with
    | true =>
      refine ⟨fun σ2 H2 => ∃ m', m' < m ∧ ∃ wd2 env2, Le wd wd2 ∧ Rel X.K T c wd2 env2 σ2 H2 ∧ I m' env2, fun σ2 H2 q => q, ?_⟩
      refine ⟨c, wd1, env1, _, r1, br_t h1, ⟨o.ex, fun env2 ⟨m', lt, i2⟩ σ2 wd2 H2 le2 r2 => ⟨m', lt, wd2, env2, (le.trans le1).trans le2, r2, i2⟩, o.rt, fun env2 q σ2 wd2 H2 le2 r2 => o.nx env2 q σ2 wd2 H2 ((le.trans le1).trans le2) r2, fun env2 ⟨m', lt, i2⟩ σ2 wd2 H2 le2 r2 => ⟨m', lt, wd2, env2, (le.trans le1).trans le2, r2, i2⟩⟩⟩
    | false => exact o.nx env1 (br_f h1) σ' wd1 H1 (le.trans le1) r1
abbrev WG := D → PEnv → (PEnv → Prop) → Prop
def liftG (K : PySem.W.Frag) (T : List (Addr × Str)) (vs : List Nat) (w : WG) : TG := fun v σ H Q => ∃ (c : Ctx) (wd : Wd) (env : PEnv) (d : D) (P : PEnv → Prop), Rel K T c wd env σ H ∧ Rep K wd v d ∧ w d env P ∧ ∀ env', P env' → ∀ σ', Rel K T c wd env' σ' H → wipe σ' vs = wipe σ vs → Q σ' H
abbrev JG (T : List (Addr × Str)) (X : Cx) (vs : List Nat) (tg : Expr) (w : WG) : Prop := PG X tg (liftG X.K T vs w)
theorem pgI {tg : Expr} {t t' : TG} (h : PG X tg t) (i : ∀ v σ H Q, t' v σ H Q → t v σ H Q) : PG X tg t' := ⟨fun pins s σ H v u Q I r q => h.run pins s σ H v u Q I r (i v σ H Q q)⟩
theorem wipe_set {σ : L2.St} {i : Nat} {x : Option V} : ∀ {vs : List Nat}, i ∈ vs → wipe (σ.set i x) vs = wipe σ vs
  | [], h => by cases h
  | v :: vs, h => by
    show (wipe (σ.set i x) vs).set v none = (wipe σ vs).set v none
    by_cases hv : i ∈ vs
    · rw [wipe_set hv]
    · have e : v = i := by
        rcases List.mem_cons.mp h with z | z
        · exact z.symm
        · exact absurd z hv
      subst e
      have key : ∀ {us : List Nat}, v ∉ us → wipe (σ.set v x) us = (wipe σ us).set v x := fun {us} => by
        induction us with
        | nil => intro _; rfl
        | cons u us ih =>
          intro hn
          have h1 : v ≠ u := fun z => hn (by rw [z]; exact List.mem_cons_self)
          have h2 := ih fun z => hn (List.mem_cons_of_mem _ z)
          show (wipe (σ.set v x) us).set u none = ((wipe σ us).set u none).set v x
          rw [h2, List.set_comm _ _ h1]
      rw [key hv, List.set_set]
def gNm (i : Nat) : WG := fun d env Q => Q (env.set i (some (.d d)))
theorem jg_name (i : Nat) {x : Str} {pos : Pos} {vs : List Nat} (nd : X.N.Nodup) (hv : i ∈ vs := by decide) (hi : X.N[i]? = some x := by rfl) (hx : Loc X.env.scope x := by first | exact Or.inl rfl | exact Or.inr rfl) (hf : X.fn x = true ∨ X.env.scope.names.lookup x = some .local := by first | exact .inl rfl | exact .inr rfl) : JG T X vs (.Name x pos) (gNm i) :=
  pgI (pg_name nd hi hx hf) fun v σ H Q ⟨c, wd, env, d, P, r, rp, h, k⟩ => k _ h _ (r.set rp) (wipe_set hv)
abbrev WGs := List D → PEnv → (PEnv → Prop) → Prop
def liftGs (K : PySem.W.Frag) (T : List (Addr × Str)) (us : List Nat) (w : WGs) : TGs := fun vs σ H Q => ∃ (c : Ctx) (wd : Wd) (env : PEnv) (ds : List D) (P : PEnv → Prop), Rel K T c wd env σ H ∧ Reps K wd vs ds ∧ w ds env P ∧ ∀ env', P env' → ∀ σ', Rel K T c wd env' σ' H → wipe σ' us = wipe σ us → Q σ' H
abbrev JGs (T : List (Addr × Str)) (X : Cx) (us : List Nat) (ts : List Expr) (w : WGs) : Prop := PGs X ts (liftGs X.K T us w)
theorem pgsI {ts : List Expr} {t t' : TGs} (h : PGs X ts t) (i : ∀ v σ H Q, t' v σ H Q → t v σ H Q) : PGs X ts t' := ⟨fun pins s σ H v u Q I r q => h.run pins s σ H v u Q I r (i v σ H Q q)⟩
def gsNil : WGs := fun ds env Q => match ds with
  | [] => Q env
  | _ => False
def gsCons (g : WG) (r : WGs) : WGs := fun ds env Q => match ds with
  | d :: ds => g d env fun env' => r ds env' Q
  | _ => False
theorem jgs_nil {us : List Nat} : JGs T X us [] gsNil := pgsI pgs_nil fun vs σ H Q ⟨c, wd, env, ds, P, r, rp, h, k⟩ => by
  cases rp with
  | nil => exact ⟨rfl, k _ h _ r rfl⟩
  | cons _ _ => exact h.elim
theorem jgs_cons {e : Expr} {es : List Expr} {g : WG} {w : WGs} {us : List Nat} (h1 : JG T X us e g) (h2 : JGs T X us es w) (hs : (assignEach (e :: es) X.env).map (·.2) = assign e X.env :: (assignEach es X.env).map (·.2) := by rfl) : JGs T X us (e :: es) (gsCons g w) :=
  pgsI (pgs_cons h1 h2 hs) fun vs σ H Q ⟨c, wd, env, ds, P, r, rp, h, k⟩ => by
    cases rp with
    | nil => exact h.elim
    | cons a b => exact ⟨_, _, rfl, c, wd, env, _, _, r, a, h, fun env' h' σ' r' e' => ⟨c, wd, env', _, P, r', b, h', fun env2 h2 σ2 r2 e2 => k env2 h2 σ2 r2 (e2.trans e')⟩⟩
def gTupP (w : WGs) (n : Nat) : WG := fun d env Q => match d with
  | .tup xs => xs.length = n ∧ w xs env Q
  | _ => False
theorem jg_tup {es : List Expr} {kk : Nat} {w : WGs} {n : Nat} {pos : Pos} {us : List Nat} (hc : X.calm = true) (h : JGs T X us es w) (hn : (assignEach es X.env).length = n := by rfl) (hst : (assignEach es X.env).findIdx? (·.1) = none := by rfl) : JG T X us (.Tuple es kk pos) (gTupP w n) :=
  pgI (pg_tup hc h hn hst) fun v σ H Q ⟨c, wd, env, d, P, r, rp, h, k⟩ => by
    unfold gTupP at h
    split at h
    · cases rp with
      | tup hs rs => exact ⟨_, _, rfl, sub_sqT r.good hs, by rw [rs.length]; exact h.1, c, wd, env, _, P, r, rs, h.2, k⟩
    · exact h.elim
def sAsg (e : W D) (g : WG) : WS := fun pe env => e env (fun d env' => g d env' pe.nx) pe.ex
theorem js_asg {tg e : Expr} {w : W D} {g : WG} {pos : Pos} {us : List Nat} (he : JE T X E e w) (hg : JG T X us tg g) (hs : swapsWithSole [tg] e pos.line X.env = pure false := by rfl) (hw : swappedStores [tg] e X.env = pure none := by rfl)
    (h1 : (assignEach [tg] X.env).map (·.2) = [assign tg X.env] := by rfl) : JS T X E (.Assign [tg] e pos) (sAsg w g) :=
  psI (ps_asg he hg hs hw h1) fun D σ H ⟨c, wd, env, pe, r, h, o⟩ => ⟨c, wd, env, _, _, r, h, o.ex, fun d env' h' v wd' H' le r' rp => ⟨c, wd', env', d, _, r', rp, h', fun env2 h2 σ' r2 _ => o.nx env2 h2 σ' wd' H' le r2⟩⟩
end
end Pd

namespace Pd
open PySem PySem.Spec PyProof.Rows L2 LamX

section
variable {K : PySem.W.Frag} {T : List (Addr × Str)} {c : Ctx} {wd : Wd} {env : PEnv} {σ : L2.St} {H : Hp}
theorem Ext.addT (x : Ext K c wd env σ H) {p : Addr} {vs : List V} (hm : wd.M p = none) (h : H p = some (.tup vs)) : Ext K c (wd.add p (.tup vs)) env σ H := by
  have le : Le wd (wd.add p (.tup vs)) := Le.add hm
  refine ⟨fun i p0 C fs e => ?_, x.ob1, fun i cs e q hq => ?_, x.cnd, x.ce1, fun i lk kvs e => ?_, x.dc1⟩
  · obtain ⟨dx, us, h1, h2, h3, h4, h5, h6⟩ := x.obj i p0 C fs e
    refine ⟨dx, us, h1, h2, upd_none h3 (fun z => ?_), h4, h5, h6.mono le⟩
    rw [z, h] at h2
    cases h2
  · obtain ⟨⟨us, h1, h2⟩, h3, h4, h5, h6⟩ := x.cel i cs e q hq
    refine ⟨⟨us, h1, h2.mono le⟩, upd_none h3 (fun z => ?_), h4, h5, h6⟩
    rw [z, h] at h1
    cases h1
  · obtain ⟨p0, us, h1, h2, h3, h4, h5, h6⟩ := x.dct i lk kvs e
    refine ⟨p0, us, h1, h2, upd_none h3 (fun z => ?_), h4, h5, h6.mono le⟩
    rw [z, h] at h2
    exact lk_tup h2
theorem Rel.known (r : Rel K T c wd env σ H) {p : Addr} {vs : List V} (h : H p = some (.tup vs)) : ∃ wd', Le wd wd' ∧ Rel K T c wd' env σ H ∧ wd'.M p = some (.tup vs) := by
  cases hm : wd.M p with
  | some o =>
    have := r.good.sub p o hm
    rw [h] at this
    exact ⟨wd, Le.refl _, r, by rw [hm]; exact this.symm⟩
  | none =>
    have le : Le wd (wd.add p (.tup vs)) := Le.add hm
    have uq : ∀ {a : Addr} {o : HO}, (wd.add p (.tup vs)).M a = some o → (a = p ∧ o = .tup vs) ∨ wd.M a = some o := fun {a o} z => by
      by_cases ha : a = p
      · subst ha
        have z' : upd wd.M a (.tup vs) a = some o := z
        rw [upd_same] at z'
        cases z'
        exact .inl ⟨rfl, rfl⟩
      · have z' : upd wd.M p (.tup vs) a = some o := z
        rw [upd_ne ha] at z'
        exact .inr z'
    have nl : ∀ {a : Addr} {us : List V}, H a = some (.lst us) → a ≠ p := fun {a us} e z => by
      rw [z, h] at e
      cases e
    refine ⟨_, le, ⟨⟨r.ord.le.trans le, fun a o z => ?_, r.ord.fb⟩, ⟨fun a o z => ?_, fun a o z => ?_, fun b hb => ?_, r.good.tab, r.good.siz⟩, r.keep, r.len, fun i d z => ?_, fun i ys z => ?_, r.sep, fun q hq => ?_, r.ext.addT hm h⟩, upd_same⟩
    · rcases uq z with ⟨rfl, rfl⟩ | z
      · exact .inr (.inr ⟨vs, rfl⟩)
      · exact r.ord.fm a o z
    · rcases uq z with ⟨rfl, rfl⟩ | z
      · exact h
      · exact r.good.sub a o z
    · rcases uq z with ⟨rfl, rfl⟩ | z
      · exact ⟨noTb_tup, r.good.siz _ _ h⟩
      · exact r.good.ntb a o z
    · obtain ⟨z1, z2⟩ := r.good.box b hb
      refine ⟨?_, z2⟩
      obtain ⟨_, _, _, e, _⟩ := z2
      exact upd_none z1 (nl e)
    · obtain ⟨v, z1, z2⟩ := r.dat i d z
      exact ⟨v, z1, z2.mono le⟩
    · obtain ⟨q, us, z1, z2, z3, z4, z5, z6⟩ := r.own i ys z
      exact ⟨q, us, z1, z2, upd_none z3 (nl z2), z4, z5, z6.mono le⟩
    · obtain ⟨z1, z2, z3, z4⟩ := r.pin q hq
      exact ⟨z1, upd_none z2 (nl z1), z3, z4⟩
end
section
variable (K : PySem.W.Frag) (T : List (Addr × Str))
def YD (wd : Wd) (d : D) (H : Hp) (v : V) (H' : Hp) : Prop := (H' = H ∧ Rep K wd v d) ∨ (∃ (p : Addr) (vs : List V) (ds : List D), v = .ref p ∧ H p = none ∧ H' = upd H p (.tup vs) ∧ d = .tup ds ∧ Reps K wd vs ds ∧ vs.length ≤ sizeLine) ∨
  (∃ (p : Addr) (vs : List V) (ds : List D), v = .ref p ∧ H p = some (.tup vs) ∧ H' = H ∧ d = .tup ds ∧ Reps K wd vs ds) ∨
  ∃ (p q : Addr) (n : Int) (vs : List V) (ds : List D), v = .ref p ∧ H q = none ∧ H p = none ∧ p ≠ q ∧ H' = upd (upd H q (.tup vs)) p (.tup [.int n, .ref q]) ∧ d = .tup [.int n, .tup ds] ∧ Reps K wd vs ds ∧ vs.length ≤ sizeLine
def WalkD (wd : Wd) (J : It) (xs : List D) : Prop := Walk J xs.length (fun H => Sub wd.M H) (fun i H v H' => ∃ d, xs[i]? = some d ∧ YD K wd d H v H')
def liftI (E : XK) (w : W (List D)) : TI := fun σ H R => ∃ (c : Ctx) (wd : Wd) (env : PEnv) (P : List D → PEnv → Prop) (Ex : Xc → Prop), Rel K T c wd env σ H ∧ w env P Ex ∧ XOk K T c E Ex ∧
  ∀ xs env', P xs env' → ∀ (J : It) (wd' : Wd) (H' : Hp), Le wd wd' → Rel K T c wd' env' σ H' → WalkD K wd' J xs → xs.length ≤ sizeLine → R J H'
end
abbrev JI (T : List (Addr × Str)) (X : Cx) (E : XK) (tg e : Expr) (w : W (List D)) : Prop := PI X tg e (liftI X.K T E w)
section
variable {X : Cx} {T : List (Addr × Str)} {E : XK} {k : Nat} {tg : Expr}
theorem piI {e : Expr} {t t' : TI} (h : PI X tg e t) (i : ∀ σ H R, t' σ H R → t σ H R) : PI X tg e t' := ⟨fun pins s σ H R I q => h.run pins s σ H R I (i σ H R q)⟩
def iSeq (K : PySem.W.Frag) (tl : TE) : TI := fun σ H R => tl σ H fun x H1 => ∃ a, x = .ref a ∧ (((∃ ys, SqL K H1 a ys) ∧ R (Itl K a) H1) ∨ ((∃ ys, SqT K H1 a ys) ∧ R (Itt K a) H1))
theorem pi_seq {l : Expr} {tl : TE} (hl : PE X l tl) : PI X tg l (iSeq X.K tl) := by
  constructor
  intro pins s σ H R I h
  refine thn (hl.run pins s σ H _ I h) ?_
  rintro v s1 ⟨x, H1, J1, r1, a, rfl, q⟩
  cases r1
  have fp1 : ∀ b ∈ [s1.heap.objs.size], FpOk X pins H1 b := fun b hb => by
    rw [List.mem_singleton.mp hb]
    exact J1.fpOk (Nat.le_refl _) (J1.hok.fresh (Nat.le_refl _))
  rcases q with ⟨⟨ys, hy⟩, q⟩ | ⟨⟨ys, hy⟩, q⟩
  · obtain ⟨us, ru, pu, _⟩ := J1.list hy
    exact wpAny_pyIter_list pu.isList ⟨_, [_], _, _, H1, rfl, J1.kept (t' := s1.toks) fun b o z => Heap.get?_push_of_some _ z, turn_list a _, ⟨_, Heap.get?_push_size _ rfl, rfl, rfl⟩, fp1, q⟩
  · obtain ⟨us, ru, pu, _⟩ := J1.tuple hy
    exact wpAny_pyIter_tuple (show s1.heap.IsTuple a us.toArray from pu) ⟨_, [_], _, _, H1, rfl, J1.kept (t' := s1.toks) fun b o z => Heap.get?_push_of_some _ z, turn_tuple a _, ⟨_, Heap.get?_push_size _ rfl, rfl, rfl⟩, fp1, q⟩
def wItems (a : W D) : W (List D) := a.bind fun x env Q _ => match x with
  | .tup xs => Q xs env
  | .lst xs => Q xs env
  | _ => False
theorem walkD_list {K : PySem.W.Frag} {wd : Wd} {a : Addr} {vs : List V} {xs : List D} (h : wd.M a = some (.lst vs)) (r : Reps K wd vs xs) : WalkD K wd (Itl K a) xs := by
  unfold WalkD
  rw [← r.length]
  refine (walk_list (K := K) (a := a) (xs := vs)).mono (fun H z => .inl (.inl (z _ _ h))) fun i H x H' hi z y => ?_
  obtain ⟨rfl, e⟩ := y
  obtain ⟨d, e1, r1⟩ := r.getV e
  exact ⟨d, e1, .inl ⟨rfl, r1⟩⟩
theorem walkD_tup {K : PySem.W.Frag} {wd : Wd} {a : Addr} {vs : List V} {xs : List D} (h : wd.M a = some (.tup vs)) (r : Reps K wd vs xs) : WalkD K wd (Itt K a) xs := by
  have h : SqT K wd.M a vs := .inl (.inl h)
  unfold WalkD
  rw [← r.length]
  refine (walk_tup (K := K) (a := a) (xs := vs)).mono (fun H z => sqT_mono K z h) fun i H x H' hi z y => ?_
  obtain ⟨rfl, e⟩ := y
  obtain ⟨d, e1, r1⟩ := r.getV e
  exact ⟨d, e1, .inl ⟨rfl, r1⟩⟩
theorem ji_seq {e : Expr} {w : W D} (he : JE T X E e w) : JI T X E tg e (wItems w) :=
  piI (pi_seq he) fun σ H R ⟨c, wd, env, P, Ex, r, h, xo, kk⟩ => ⟨c, wd, env, _, Ex, r, h, xo, fun x env1 h1 v wd1 H1 le1 r1 rp1 => by
    dsimp only at h1
    split at h1
    · cases rp1 with
      | tup hs rs =>
        have hq := sub_sqT (K := X.K) r1.good hs
        exact ⟨_, rfl, .inr ⟨⟨_, hq⟩, kk _ env1 h1 _ wd1 H1 le1 r1 (walkD_tup hs rs) (by rw [← rs.length]; exact siz_sqT r1.good hs)⟩⟩
    · cases rp1 with
      | lst hs rs =>
        have hq := sub_sqL (K := X.K) r1.good hs
        exact ⟨_, rfl, .inl ⟨⟨_, hq⟩, kk _ env1 h1 _ wd1 H1 le1 r1 (walkD_list hs rs) (by rw [← rs.length]; exact (r1.good.ntb _ _ hs).2)⟩⟩
    · exact h1.elim⟩
def upTo (lo hi : Int) : List D := (List.range (hi - lo).toNat).map fun (i : Nat) => D.int (lo + i)
theorem walkD_range {K : PySem.W.Frag} {wd : Wd} {lo hi : Int} : WalkD K wd (Itr lo (hi - lo).toNat) (upTo lo hi) := by
  unfold WalkD upTo
  rw [List.length_map, List.length_range]
  refine (walk_range (lo := lo) (n := (hi - lo).toNat)).mono (fun H z => trivial) fun i H x H' hl z y => ?_
  obtain ⟨rfl, rfl⟩ := y
  refine ⟨_, ?_, .inl ⟨rfl, .int _⟩⟩
  rw [List.getElem?_map, List.getElem?_range hl]
  rfl
def wRng1 (a : W D) : W (List D) := a.bind fun x env Q _ => match x with
  | .int j => j ≤ 1000000 ∧ -1000000 ≤ j ∧ Q (upTo 0 j) env
  | _ => False
def wRng2 (a b : W D) : W (List D) := a.bind fun x => b.bind fun y env Q _ => match x, y with
  | .int i, .int j => (i ≤ 1000000 ∧ -1000000 ≤ i ∧ j ≤ 1000000 ∧ -1000000 ≤ j) ∧ Q (upTo i j) env
  | _, _ => False
theorem upTo_len {lo hi : Int} (h : hi - lo ≤ 2000000) : (upTo lo hi).length ≤ sizeLine := by
  unfold upTo
  rw [List.length_map, List.length_range]
  have : sizeLine = 16777216 := by decide
  omega
theorem ji_range1 {e : Expr} {w : W D} {p pos : Pos} (hg : Gl X "range") (hm : X.mg "range" = none) (he : JE T X E e w) (hs : starEach [e] X.env = [(false, eval e X.env)] := by rfl) : JI T X E tg (.Call (.Name "range" p) [e] [] pos) (wRng1 w) :=
  piI (pi_range1 hg hm (pa_cons he pa_nil hs) hs) fun σ H R ⟨c, wd, env, P, Ex, r, h, xo, kk⟩ => ⟨c, wd, env, _, Ex, r, h, xo, fun x env1 h1 v wd1 H1 le1 r1 rp1 => by
    dsimp only at h1
    split at h1
    · rename_i j
      cases rp1
      refine ⟨_, rfl, by omega, by omega, ?_⟩
      have e0 : Itr 0 j.toNat = Itr 0 (j - 0).toNat := by rw [Int.sub_zero]
      rw [e0]
      exact kk _ env1 h1.2.2 _ wd1 H1 le1 r1 walkD_range (upTo_len (by omega))
    · exact h1.elim⟩
theorem ji_range2 {e f : Expr} {w u : W D} {p pos : Pos} (hg : Gl X "range") (hm : X.mg "range" = none) (he : JE T X E e w) (hf : JE T X E f u) (hs : starEach [e, f] X.env = [(false, eval e X.env), (false, eval f X.env)] := by rfl) (hs2 : starEach [f] X.env = [(false, eval f X.env)] := by rfl)
    (hs3 : starEach [e, f] X.env = (false, eval e X.env) :: starEach [f] X.env := by rfl) : JI T X E tg (.Call (.Name "range" p) [e, f] [] pos) (wRng2 w u) :=
  piI (pi_range2 hg hm (pa_cons he (pa_cons hf pa_nil hs2) hs3) hs hs2) fun σ H R ⟨c, wd, env, P, Ex, r, h, xo, kk⟩ => ⟨c, wd, env, _, Ex, r, h, xo, fun x env1 h1 v wd1 H1 le1 r1 rp1 => ⟨c, wd1, env1, _, Ex, r1, h1, xo, fun y env2 h2 u wd2 H2 le2 r2 rp2 => by
    dsimp only at h2
    split at h2
    · rename_i i j
      cases rp1
      cases rp2
      exact ⟨_, _, rfl, ⟨by omega, by omega, by omega, by omega⟩, kk _ env2 h2.2 _ wd2 H2 (le1.trans le2) r2 walkD_range (upTo_len (by omega))⟩
    · exact h2.elim⟩⟩
def zipD (xs ys : List D) : List D := (xs.zip ys).map fun q => .tup [q.1, q.2]
def wZip (a b : W D) : W (List D) := a.bind fun x => b.bind fun y env Q _ => match x, y with
  | .tup xs, .tup ys => Q (zipD xs ys) env
  | .lst xs, .lst ys => Q (zipD xs ys) env
  | _, _ => False
theorem zipD_len (xs ys : List D) : (zipD xs ys).length = min xs.length ys.length := by
  unfold zipD
  rw [List.length_map, List.length_zip]
theorem yd_pair {K : PySem.W.Frag} {wd : Wd} {xs ys : List D} {us vs : List V} {i : Nat} {H H' : Hp} {x : V} (ru : Reps K wd us xs) (rv : Reps K wd vs ys) (y : YPair (fun i => us[i]?) (fun i => vs[i]?) i H x H') :
    ∃ d, (zipD xs ys)[i]? = some d ∧ YD K wd d H x H' := by
  obtain ⟨p, a, b, rfl, hp, rfl, e1, e2⟩ := y
  obtain ⟨d1, f1, r1⟩ := ru.getV e1
  obtain ⟨d2, f2, r2⟩ := rv.getV e2
  refine ⟨.tup [d1, d2], ?_, .inr (.inl ⟨p, [a, b], [d1, d2], rfl, hp, rfl, rfl, .cons r1 (.cons r2 .nil), by show 2 ≤ sizeLine; decide⟩)⟩
  unfold zipD
  rw [List.getElem?_map, List.getElem?_zip_eq_some.mpr (show xs[i]? = some ((d1, d2) : D × D).1 ∧ ys[i]? = some ((d1, d2) : D × D).2 from ⟨f1, f2⟩)]
  rfl
theorem ji_zip {e f : Expr} {w u : W D} {p pos tpos : Pos} {elts : List Expr} {kk : Nat} (hg : Gl X "zip") (hm : X.mg "zip" = none) (he : JE T X E e w) (hf : JE T X E f u) (hs : starEach [e, f] X.env = (false, eval e X.env) :: starEach [f] X.env := by rfl)
    (hs2 : starEach [f] X.env = (false, eval f X.env) :: starEach [] X.env := by rfl) (hpl : (backTo pos (starEach [f] X.env)).any (·.1) = false := by rfl) : JI T X E (.Tuple elts kk tpos) (.Call (.Name "zip" p) [e, f] [] pos) (wZip w u) :=
  piI (RZ.pi_zipA hg hm (pa_cons he (pa_cons hf pa_nil hs2) hs) hs hpl) fun σ H R ⟨c, wd, env, P, Ex, r, h, xo, kk⟩ => ⟨c, wd, env, _, Ex, r, h, xo, fun x env1 h1 v wd1 H1 le1 r1 rp1 => ⟨c, wd1, env1, _, Ex, r1, h1, xo, fun y env2 h2 u wd2 H2 le2 r2 rp2 => by
    have rp1 := Rep.mono le2 rp1
    dsimp only at h2
    split at h2
    · rename_i xs ys
      cases rp1 with
      | tup hs1 rs1 =>
        cases rp2 with
        | tup hs2 rs2 =>
          have q1 := sub_sqT (K := X.K) r2.good hs1
          refine ⟨_, _, _, _, rfl, .inr ⟨q1, sub_sqT r2.good hs2, kk _ env2 h2 _ wd2 H2 (le1.trans le2) r2 ?_ ?_⟩⟩
          · unfold WalkD
            rw [zipD_len, ← rs1.length, ← rs2.length]
            refine ⟨fun i H hi z => ?_, fun H z => ?_, fun i H x H' hi z y => ?_⟩
            · have l1 := Nat.lt_of_lt_of_le hi (Nat.min_le_left _ _)
              have l2 := Nat.lt_of_lt_of_le hi (Nat.min_le_right _ _)
              exact ⟨_, _, _, _, sqT_sub X.K z hs1, sqT_sub X.K z hs2, List.getElem?_eq_getElem l1, List.getElem?_eq_getElem l2⟩
            · exact ⟨_, _, sqT_sub X.K z hs1, sqT_sub X.K z hs2, by omega⟩
            · obtain ⟨p, a, b, e1, e2, e3, e4, e5⟩ := y
              exact yd_pair rs1 rs2 ⟨p, a, b, e1, e2, e3, e4 _ (sqT_sub X.K z hs1), e5 _ (sqT_sub X.K z hs2)⟩
          · rw [zipD_len, ← rs1.length]
            exact Nat.le_trans (Nat.min_le_left _ _) (siz_sqT r2.good hs1)
    · rename_i xs ys
      cases rp1 with
      | lst hs1 rs1 =>
        cases rp2 with
        | lst hs2 rs2 =>
          have q1 := sub_sqL (K := X.K) r2.good hs1
          refine ⟨_, _, _, _, rfl, .inl ⟨q1, sub_sqL r2.good hs2, kk _ env2 h2 _ wd2 H2 (le1.trans le2) r2 ?_ ?_⟩⟩
          · unfold WalkD
            rw [zipD_len, ← rs1.length, ← rs2.length]
            refine ⟨fun i H hi z => ?_, fun H z => ?_, fun i H x H' hi z y => ?_⟩
            · have l1 := Nat.lt_of_lt_of_le hi (Nat.min_le_left _ _)
              have l2 := Nat.lt_of_lt_of_le hi (Nat.min_le_right _ _)
              exact ⟨_, _, _, _, .inl (.inl (z _ _ hs1)), .inl (.inl (z _ _ hs2)), List.getElem?_eq_getElem l1, List.getElem?_eq_getElem l2⟩
            · exact ⟨_, _, .inl (.inl (z _ _ hs1)), .inl (.inl (z _ _ hs2)), by omega⟩
            · obtain ⟨p, a, b, e1, e2, e3, e4, e5⟩ := y
              exact yd_pair rs1 rs2 ⟨p, a, b, e1, e2, e3, e4 _ (.inl (.inl (z _ _ hs1))), e5 _ (.inl (.inl (z _ _ hs2)))⟩
          · rw [zipD_len, ← rs1.length]
            exact Nat.le_trans (Nat.min_le_left _ _) ((r2.good.ntb _ _ hs1).2)
    · exact h2.elim⟩⟩
theorem Rel.item {K : PySem.W.Frag} {c : Ctx} {wd wd1 : Wd} {env : PEnv} {σ : L2.St} {H H' : Hp} {d : D} {v : V} (r : Rel K T c wd1 env σ H) (le : Le wd wd1) (y : YD K wd d H v H') :
    ∃ wd2, Le wd1 wd2 ∧ Rel K T c wd2 env σ H' ∧ Rep K wd2 v d := by
  rcases y with ⟨rfl, rp⟩ | ⟨p, vs, ds, rfl, hp, rfl, rfl, rs, hz⟩ | ⟨p, vs, ds, rfl, hp, rfl, rfl, rs⟩ | ⟨p, q, n, vs, ds, rfl, hq, hp, pq, rfl, rfl, rs, hz⟩
  · exact ⟨wd1, Le.refl _, r, rp.mono le⟩
  · have l2 : Le wd1 (wd1.add p (.tup vs)) := Le.add (r.good.mnone hp)
    exact ⟨_, l2, r.grow (Grow.one hp noTb_tup hz), .tup upd_same (rs.mono (le.trans l2))⟩
  · obtain ⟨wd2, l2, r2, e⟩ := r.known hp
    exact ⟨wd2, l2, r2, .tup e (rs.mono (le.trans l2))⟩
  · have l2 : Le wd1 (wd1.add q (.tup vs)) := Le.add (r.good.mnone hq)
    have r2 := r.grow (Grow.one hq noTb_tup hz)
    have hp2 : upd H q (.tup vs) p = none := (upd_ne pq).trans hp
    have l3 : Le (wd1.add q (.tup vs)) ((wd1.add q (.tup vs)).add p (.tup [.int n, .ref q])) := Le.add (r2.good.mnone hp2)
    have inner : Rep K (wd1.add q (.tup vs)) (.ref q) (.tup ds) := .tup upd_same (rs.mono (le.trans l2))
    exact ⟨_, l2.trans l3, r2.grow (Grow.one hp2 noTb_tup (show (2 : Nat) ≤ sizeLine by decide)), .tup upd_same (.cons (.int n) (.cons (inner.mono l3) .nil))⟩
def forW (g : WG) (b : (PEnv → Prop) → PEnv → Prop) (fin : PEnv → Prop) : List D → PEnv → Prop
  | [], env => fin env
  | x :: xs, env => g x env fun env' => b (forW g b fin xs) env'
def sFor (it : W (List D)) (g : WG) (b : WS) : WS := fun pe env => it env (fun xs env' => forW g (fun nx => b { pe with nx := nx, ct := nx, bk := pe.nx }) pe.nx xs env') pe.ex
theorem js_for {iter : Expr} {body : List Stmt} {w : W (List D)} {g : WG} {b : WS} {pos : Pos} (B : Bd X E k) {us : List Nat} (hi : JI T X E tg iter w) (hg : JG T X us tg g) (hb : JSs T X E body b) (hs : ∀ x, foldedSetIterable iter X.env x = pure x := by intro _; rfl) :
    JS T X E (.For tg iter body [] pos) (sFor w g b) :=
  psI (ps_for B.own B.calm hi hg hb hs) fun D σ H ⟨c, wd, env, pe, r, h, o⟩ => ⟨c, wd, env, _, _, r, h, o.ex, fun xs env1 h1 J wd1 H1 le1 r1 wk hz => by
    refine for_it wk (fun i σ' H' => ∃ wd' env', Le wd1 wd' ∧ Rel X.K T c wd' env' σ' H' ∧ forW g (fun nx => b { pe with nx := nx, ct := nx, bk := pe.nx }) pe.nx (xs.drop i) env') ⟨wd1, env1, Le.refl _, r1, h1⟩ (fun i σ' H' hi ⟨wd', env', le, r', _⟩ => le.m.trans r'.good.sub) ?_ ?_
    · rintro i x σ' H2 H3 hl ⟨wd', env', le, r', f⟩ ⟨d, ed, y⟩
      obtain ⟨wd2, le2, r2, rp⟩ := r'.item le y
      have e : xs.drop i = d :: xs.drop (i + 1) := by
        obtain ⟨hi, e'⟩ := List.getElem?_eq_some_iff.mp ed
        rw [List.drop_eq_getElem_cons hi, e']
      rw [e] at f
      refine ⟨c, wd2, env', d, _, r2, rp, f, fun env2 f2 σ2 r3 _ => ⟨c, wd2, env2, _, r3, f2, ⟨o.ex, ?_, o.rt, ?_, ?_⟩⟩⟩
      · exact fun env3 f3 σ3 wd3 H4 le3 r4 => ⟨wd3, env3, (le.trans le2).trans le3, r4, f3⟩
      · exact fun env3 f3 σ3 wd3 H4 le3 r4 => o.nx env3 f3 σ3 wd3 H4 (((le1.trans le).trans le2).trans le3) r4
      · exact fun env3 f3 σ3 wd3 H4 le3 r4 => ⟨wd3, env3, (le.trans le2).trans le3, r4, f3⟩
    · rintro σ' H2 ⟨wd', env', le, r', f⟩
      rw [List.drop_length] at f
      exact o.nx env' f σ' wd' H2 (le1.trans le) r'⟩
end
end Pd

namespace Pd
open PySem PySem.Spec PyProof.Rows L2 LamX

def wipeE (env : PEnv) : List Nat → PEnv
  | [] => env
  | v :: vs => (wipeE env vs).set v none
def keepD : Option Sl → Option Sl
  | some (.d x) => some (.d x)
  | _ => none
def restE (env0 env : PEnv) : List Nat → PEnv
  | [] => env
  | v :: vs => (restE env0 env vs).set v (keepD (gt env0 v))
def compW (g : WG) (t : W Bool) (e : W D) (vs : List Nat) (Q : List D → PEnv → Prop) : List D → PEnv → List D → Prop
  | [], env, acc => Q acc env
  | x :: xs, env, acc => g x (wipeE env vs) fun env1 => t env1 (fun b env2 => br b (e env2 (fun y env3 => compW g t e vs Q xs env3 (acc ++ [y])) (fun _ => False)) (compW g t e vs Q xs env2 acc)) (fun _ => False)
def wComp (it : W (List D)) (g : WG) (t : W Bool) (e : W D) (vs : List Nat) : W (List D) := it.bind fun xs env Q _ => compW g t e vs (fun ys env' => Q ys (restE env env' vs)) xs env []
theorem wipeE_length (env : PEnv) : ∀ vs, (wipeE env vs).length = env.length
  | [] => rfl
  | v :: vs => by
    show ((wipeE env vs).set v none).length = env.length
    rw [List.length_set, wipeE_length env vs]
theorem wipeE_some {env : PEnv} {i : Nat} {s : Sl} : ∀ {vs : List Nat}, (wipeE env vs)[i]? = some (some s) → env[i]? = some (some s) ∧ i ∉ vs
  | [], h => ⟨h, by simp⟩
  | v :: vs, h => by
    have h' : ((wipeE env vs).set v none)[i]? = some (some s) := h
    rcases get_set h' with ⟨rfl, z, _⟩ | ⟨ne, z⟩
    · cases z
    · obtain ⟨a, b⟩ := wipeE_some z
      exact ⟨a, fun y => (List.mem_cons.mp y).elim (fun y => ne y.symm) b⟩
theorem restE_length (env0 env : PEnv) : ∀ vs, (restE env0 env vs).length = env.length
  | [] => rfl
  | v :: vs => by
    show ((restE env0 env vs).set v _).length = env.length
    rw [List.length_set, restE_length env0 env vs]
theorem restE_some {env0 env : PEnv} {i : Nat} {s : Sl} : ∀ {vs : List Nat}, (restE env0 env vs)[i]? = some (some s) → (i ∈ vs ∧ (∃ x, s = .d x) ∧ env0[i]? = some (some s)) ∨ (i ∉ vs ∧ env[i]? = some (some s))
  | [], h => .inr ⟨by simp, h⟩
  | v :: vs, h => by
    have h' : ((restE env0 env vs).set v (keepD (gt env0 v)))[i]? = some (some s) := h
    rcases get_set h' with ⟨rfl, z, _⟩ | ⟨ne, z⟩
    · left
      cases q : gt env0 v with
      | none =>
        rw [q] at z
        cases z
      | some u =>
        rw [q] at z
        cases u with
        | own xs => cases z
        | obj _ _ _ => cases z
        | cels _ => cases z
        | dct _ _ => cases z
        | d x =>
          have e : s = .d x := (Option.some.inj z).symm
          subst e
          exact ⟨List.mem_cons_self, ⟨x, rfl⟩, gt_eq _ _ q⟩
    · rcases restE_some z with ⟨a, b⟩ | ⟨a, b⟩
      · exact .inl ⟨List.mem_cons_of_mem _ a, b⟩
      · exact .inr ⟨fun y => (List.mem_cons.mp y).elim (fun y => ne y.symm) a, b⟩
theorem wipe_get {σ : L2.St} {i : Nat} : ∀ {vs : List Nat}, i ∉ vs → (wipe σ vs)[i]? = σ[i]?
  | [], _ => rfl
  | v :: vs, h => by
    show ((wipe σ vs).set v none)[i]? = σ[i]?
    rw [List.getElem?_set_ne (fun z => h (by rw [← z]; exact List.mem_cons_self)), wipe_get fun z => h (List.mem_cons_of_mem _ z)]
section
variable {K : PySem.W.Frag} {T : List (Addr × Str)} {c : Ctx} {wd wd' : Wd} {env env' : PEnv} {σ σ' : L2.St} {H H' : Hp}
theorem Rel.wipe (r : Rel K T c wd env σ H) (vs : List Nat) : Rel K T c wd (wipeE env vs) (L2.wipe σ vs) H := by
  refine ⟨r.ord, r.good, r.keep, by rw [wipeE_length, wipe_length]; exact r.len, fun i x e => ?_, fun i xs e => ?_, fun i j xs ys p e1 e2 e3 e4 => ?_, fun q hq => ?_, r.ext.sl (fun i s e _ _ => ⟨(wipeE_some e).1, wipe_get (wipeE_some e).2⟩) fun j ys e => .inl ⟨ys, (wipeE_some e).1, wipe_get (wipeE_some e).2⟩⟩
  · obtain ⟨e, hn⟩ := wipeE_some e
    rw [wipe_get hn]
    exact r.dat i x e
  · obtain ⟨e, hn⟩ := wipeE_some e
    rw [wipe_get hn]
    exact r.own i xs e
  · obtain ⟨e1, h1⟩ := wipeE_some e1
    obtain ⟨e2, h2⟩ := wipeE_some e2
    rw [wipe_get h1] at e3
    rw [wipe_get h2] at e4
    exact r.sep i j xs ys p e1 e2 e3 e4
  · obtain ⟨a, b, d, e⟩ := r.pin q hq
    refine ⟨a, b, d, fun i xs e1 => ?_, fun i cs e1 => e.c i cs (wipeE_some e1).1⟩
    obtain ⟨e1, h1⟩ := wipeE_some e1
    rw [wipe_get h1]
    exact e.o i xs e1
theorem Rel.rest {env0 : PEnv} {wd0 : Wd} {H0 : Hp} {vs : List Nat} (r0 : Rel K T c wd0 env0 σ H0) (le : Le wd0 wd) (r : Rel K T c wd (wipeE env vs) (L2.wipe σ vs) H) : Rel K T c wd (restE env0 env vs) σ H := by
  have inn : ∀ {i : Nat} {s : Sl}, i ∉ vs → env[i]? = some (some s) → (wipeE env vs)[i]? = some (some s) := fun {i s} => by
    induction vs with
    | nil => intro _ h; exact h
    | cons v vs ih =>
      intro hn h
      show ((wipeE env vs).set v none)[i]? = some (some s)
      rw [List.getElem?_set_ne (fun z => hn (by rw [← z]; exact List.mem_cons_self))]
      clear r r0
      have key : ∀ us : List Nat, i ∉ us → (wipeE env us)[i]? = env[i]? := fun us => by
        induction us with
        | nil => intro _; rfl
        | cons u us ih2 =>
          intro hu
          show ((wipeE env us).set u none)[i]? = env[i]?
          rw [List.getElem?_set_ne (fun z => hu (by rw [← z]; exact List.mem_cons_self)), ih2 fun z => hu (List.mem_cons_of_mem _ z)]
      rw [key vs fun z => hn (List.mem_cons_of_mem _ z)]
      exact h
  refine ⟨r.ord, r.good, r.keep, ?_, fun i x e => ?_, fun i xs e => ?_, fun i j xs ys p e1 e2 e3 e4 => ?_, fun q hq => ?_, r.ext.sl (fun i s e n1 n2 => ?_) fun j ys e => ?_⟩
  · have := r.len
    rw [wipeE_length, wipe_length] at this
    rw [restE_length]
    exact this
  · rcases restE_some e with ⟨_, _, e⟩ | ⟨hn, e⟩
    · obtain ⟨v, h1, h2⟩ := r0.dat i x e
      exact ⟨v, h1, h2.mono le⟩
    · obtain ⟨v, h1, h2⟩ := r.dat i x (inn hn e)
      rw [wipe_get hn] at h1
      exact ⟨v, h1, h2⟩
  · rcases restE_some e with ⟨_, ⟨x, z⟩, e⟩ | ⟨hn, e⟩
    · cases z
    · obtain ⟨p, us, h1, h2⟩ := r.own i xs (inn hn e)
      rw [wipe_get hn] at h1
      exact ⟨p, us, h1, h2⟩
  · rcases restE_some e1 with ⟨_, ⟨x, z⟩, e⟩ | ⟨hn1, e1⟩
    · cases z
    · rcases restE_some e2 with ⟨_, ⟨x, z⟩, e⟩ | ⟨hn2, e2⟩
      · cases z
      · exact r.sep i j xs ys p (inn hn1 e1) (inn hn2 e2) (by rw [wipe_get hn1]; exact e3) (by rw [wipe_get hn2]; exact e4)
  · obtain ⟨a, b, d, e⟩ := r.pin q hq
    refine ⟨a, b, d, fun i xs e1 => ?_, fun i cs e1 => ?_⟩
    · rcases restE_some e1 with ⟨_, ⟨x, z⟩, _⟩ | ⟨hn, e1⟩
      · cases z
      · have := e.o i xs (inn hn e1)
        rw [wipe_get hn] at this
        exact this
    · rcases restE_some e1 with ⟨_, ⟨x, z⟩, _⟩ | ⟨hn, e1⟩
      · cases z
      · exact e.c i cs (inn hn e1)
  · rcases restE_some e with ⟨_, ⟨x, z⟩, _⟩ | ⟨hn, e⟩
    · exact absurd z (n1 x)
    · exact ⟨inn hn e, (wipe_get hn).symm⟩
  · rcases restE_some e with ⟨_, ⟨x, z⟩, _⟩ | ⟨hn, e⟩
    · cases z
    · exact .inl ⟨ys, inn hn e, (wipe_get hn).symm⟩
theorem Rel.begin (r : Rel K T c wd env σ H) {p : Addr} (hp : H p = none) : Rel K T { c with pn := (p, []) :: c.pn } wd env σ (upd H p (.lst [])) := by
  obtain ⟨r1, q, vs, e, h1, h2, h3, h4, h5, h6, h7⟩ := r.fresh hp (vs := []) (xs := []) .nil (Nat.zero_le _)
  cases e
  refine ⟨r1.ord, r1.good, r1.keep, r1.len, r1.dat, r1.own, r1.sep, fun q hq => ?_, ⟨r1.ext.obj, r1.ext.ob1, r1.ext.cel, r1.ext.cnd, r1.ext.ce1, r1.ext.dct, r1.ext.dc1⟩⟩
  rcases List.mem_cons.mp hq with rfl | hq
  · exact ⟨upd_same, h2, h3, h6⟩
  · exact r1.pin q hq
theorem Rel.more {p : Addr} {us : List V} {pn : List (Addr × List V)} (r : Rel K T { c with pn := (p, us) :: pn } wd env σ H) (hc : Nt c.H p) (hq : ∀ q ∈ pn, q.1 ≠ p) (y : V) (hz : us.length < sizeLine) : Rel K T { c with pn := (p, us ++ [y]) :: pn } wd env σ (upd H p (.lst (us ++ [y]))) := by
  obtain ⟨h1, h2, h3, h4⟩ := r.pin (p, us) List.mem_cons_self
  have h1 : H p = some (.lst us) := h1
  have h2 : wd.M p = none := h2
  have h3 : p ∉ wd.B := h3
  have h4 : NoOwn env σ p := h4
  have hx : Ext K { c with pn := (p, us ++ [y]) :: pn } wd env σ H := ⟨r.ext.obj, r.ext.ob1, r.ext.cel, r.ext.cnd, r.ext.ce1, r.ext.dct, r.ext.dc1⟩
  refine ⟨r.ord, ⟨fun a o q => ?_, r.good.ntb, fun b hb => ?_, fun q hq => ?_, siz_upd r.good.siz (by show (us ++ [y]).length ≤ sizeLine; rw [List.length_append]; exact hz)⟩, ⟨fun a o q n t => ?_, fun a q => ?_⟩, r.len, r.dat, fun i xs e => ?_, r.sep, fun q hm => ?_, hx.updL h4.c h1⟩
  · rw [upd_ne (show a ≠ p from fun z => by rw [z, h2] at q; cases q)]
    exact r.good.sub a o q
  · obtain ⟨z1, g, s, c', z2, z3⟩ := r.good.box b hb
    exact ⟨z1, g, s, c', by rw [upd_ne (show b ≠ p from fun z => h3 (z ▸ hb))]; exact z2, z3⟩
  · obtain ⟨ps, z1, z2, z3⟩ := r.good.tab q hq
    refine ⟨ps, ?_, z2, fun pos cv hc => ?_⟩
    · rw [upd_ne (show q.1 ≠ p from fun z => by rw [z, h1] at z1; cases z1)]
      exact z1
    · obtain ⟨a, y1, y2⟩ := z3 pos cv hc
      refine ⟨a, y1, ?_⟩
      rw [upd_ne (show a ≠ p from fun z => by rw [z, h1] at y2; cases y2)]
      exact y2
  · have q' : c.H a = some o := q
    rw [upd_ne (show a ≠ p from fun z => hc.no (by rw [← z]; exact q') t)]
    exact r.keep.st a o q n t
  · by_cases ha : a = p
    · subst ha
      exact hc
    · exact r.keep.dm a (q.upd ha)
  · obtain ⟨q, ws, z1, z2, z3⟩ := r.own i xs e
    exact ⟨q, ws, z1, by rw [upd_ne (show q ≠ p from fun z => h4.o i xs e (by rw [← z]; exact z1))]; exact z2, z3⟩
  · rcases List.mem_cons.mp hm with rfl | hm
    · exact ⟨upd_same, h2, h3, h4⟩
    · obtain ⟨a, b, d, e⟩ := r.pin q (List.mem_cons_of_mem _ hm)
      exact ⟨by rw [upd_ne (hq q hm)]; exact a, b, d, e⟩
theorem Rel.done {p : Addr} {us : List V} {pn : List (Addr × List V)} (r : Rel K T { c with pn := (p, us) :: pn } wd env σ H) : Rel K T { c with pn := pn } wd env σ H :=
  ⟨r.ord, r.good, r.keep, r.len, r.dat, r.own, r.sep, fun q hq => r.pin q (List.mem_cons_of_mem _ hq), ⟨r.ext.obj, r.ext.ob1, r.ext.cel, r.ext.cnd, r.ext.ce1, r.ext.dct, r.ext.dc1⟩⟩
end
abbrev JTs (T : List (Addr × Str)) (X : Cx) (E : XK) (ifs : List Expr) (w : W Bool) : Prop := PTs X ifs (lift X.K T rT E w)
section
variable {X : Cx} {T : List (Addr × Str)} {E : XK} {k : Nat} {tg : Expr}
theorem ptsI {es : List Expr} {t t' : TT} (h : PTs X es t) (i : ∀ σ H Q, t' σ H Q → t σ H Q) : PTs X es t' := ⟨fun pins s σ H Q I q => h.run pins s σ H Q I (i σ H Q q)⟩
theorem jts_nil : JTs T X E [] (W.ret true) := ptsI pts_nil fun σ H Q ⟨c, wd, env, P, Ex, r, h, _, k⟩ => k true env h true wd H (Le.refl _) r rfl
theorem jts_one {e : Expr} {w : W Bool} (h : JT T X E e w) : JTs T X E [e] w := pts_one h
theorem xok0 {K : PySem.W.Frag} {c : Ctx} {E : XK} : XOk K T c E (fun _ => False) := fun _ h => h.elim
theorem lc_lift {w : W (List D)} {g : WG} {wt : W Bool} {we : W D} {vs : List Nat} {σ : L2.St} {H : Hp} {Q : VK} (h : lift X.K T (rF X.K) E (wComp w g wt we vs) σ H Q) :
    tLc (liftI X.K T E w) (liftG X.K T vs g) (lift X.K T rT E0 wt) (lift X.K T (rE X.K) E0 we) vs σ H Q := by
  obtain ⟨c, wd, env, P, Ex, r, h, xo, kk⟩ := h
  refine ⟨c, wd, env, _, Ex, r, h, xo, fun xs env1 h1 J wd1 H1 le1 r1 wk hz Dl hD => ?_⟩
  have hc : Nt c.H Dl := r1.keep.dm Dl (Nt.of hD)
  have hq : ∀ q ∈ c.pn, q.1 ≠ Dl := fun q hm z => by
    have := (r1.pin q hm).1
    rw [z, hD] at this
    cases this
  refine lc_it wk (fun i H' => ∃ wd' env' acc us, Le wd1 wd' ∧ Rel X.K T { c with pn := (Dl, us) :: c.pn } wd' (wipeE env' vs) (L2.wipe σ vs) H' ∧ Reps X.K wd' us acc ∧ us.length ≤ i ∧ compW g wt we vs (fun ys env' => P ys (restE env1 env' vs)) (xs.drop i) env' acc)
    ⟨wd1, env1, [], [], Le.refl _, (r1.wipe vs).begin hD, .nil, Nat.le_refl _, h1⟩ (fun i H' hi ⟨wd', env', acc, us, le, r', _⟩ => le.m.trans r'.good.sub) ?_ ?_
  · rintro i x H2 H3 hl ⟨wd', env', acc, us, le, r', ru, hi, f⟩ ⟨d, ed, y⟩
    obtain ⟨wd2, le2, r2, rp⟩ := r'.item le y
    have e : xs.drop i = d :: xs.drop (i + 1) := by
      obtain ⟨hi, e'⟩ := List.getElem?_eq_some_iff.mp ed
      rw [List.drop_eq_getElem_cons hi, e']
    rw [e] at f
    refine ⟨_, wd2, _, d, _, r2, rp, f, fun env2 f2 σ2 r3 ew => ?_⟩
    have ew2 : L2.wipe (L2.wipe σ vs) vs = L2.wipe σ vs := by
      have key : ∀ us : List Nat, (∀ i ∈ us, i ∈ vs) → L2.wipe (L2.wipe σ vs) us = L2.wipe σ vs := fun us => by
        induction us with
        | nil => intro _; rfl
        | cons u us ih =>
          intro hu
          show (L2.wipe (L2.wipe σ vs) us).set u none = L2.wipe σ vs
          rw [ih fun i hi => hu i (List.mem_cons_of_mem _ hi)]
          refine List.ext_getElem? fun j => ?_
          by_cases hj : u = j
          · subst hj
            by_cases hl : u < (L2.wipe σ vs).length
            · rw [List.getElem?_set_self hl]
              cases q : (L2.wipe σ vs)[u]? with
              | none =>
                have := List.getElem?_eq_none_iff.mp q
                omega
              | some o =>
                cases o with
                | none => rfl
                | some v => exact absurd (hu u List.mem_cons_self) (wipe_some q).2
            · rw [List.set_eq_of_length_le (by omega)]
          · rw [List.getElem?_set_ne hj]
      exact key vs fun _ h => h
    refine ⟨ew.trans ew2, ?_⟩
    have ew3 : L2.wipe σ2 vs = L2.wipe σ vs := ew.trans ew2
    refine ⟨_, wd2, env2, _, _, r3, f2, xok0, fun b env3 f3 bb wd3 H4 le3 r4 eb => ?_⟩
    obtain rfl : bb = b := eb
    have nxt : ∀ {wd4 : Wd} {env4 : PEnv} {H5 : Hp}, Rel X.K T { c with pn := (Dl, us) :: c.pn } wd4 env4 σ2 H5 → Rel X.K T { c with pn := (Dl, us) :: c.pn } wd4 (wipeE env4 vs) (L2.wipe σ vs) H5 := fun {wd4 env4 H5} z => by
      have := z.wipe vs
      rw [ew3] at this
      exact this
    cases bb with
    | false => exact ⟨wd3, env3, acc, us, (le.trans le2).trans le3, nxt r4, ru.mono (le2.trans le3), Nat.le_succ_of_le hi, br_f f3⟩
    | true =>
      show lift X.K T (rE X.K) E0 we σ2 H4 _
      refine ⟨_, wd3, env3, _, _, r4, br_t f3, xok0, fun y1 env4 f4 yv wd4 H5 le4 r5 rp5 => ?_⟩
      have hlt : us.length < sizeLine := Nat.lt_of_le_of_lt hi (Nat.lt_of_lt_of_le hl hz)
      refine ⟨us, (r5.pin (Dl, us) List.mem_cons_self).1, hlt, wd4, env4, acc ++ [y1], us ++ [yv], ((le.trans le2).trans le3).trans le4, ?_, ?_, ?_, f4⟩
      · exact (nxt r5).more hc hq yv hlt
      · exact ((ru.mono (le2.trans le3)).mono le4).append (.cons rp5 .nil)
      · rw [List.length_append]
        exact Nat.succ_le_succ hi
  · rintro H2 ⟨wd', env', acc, us, le, r', ru, hi, f⟩
    rw [List.drop_length] at f
    obtain ⟨p1, p2, p3, p4⟩ := r'.pin (Dl, us) List.mem_cons_self
    have r6 : Rel X.K T c wd' (restE env1 env' vs) σ H2 := Rel.rest r1 le r'.done
    have w0 : ∀ {i : Nat} {s : Sl}, i ∉ vs → env'[i]? = some (some s) → (wipeE env' vs)[i]? = some (some s) := fun {i s} hn e => by
      have key : ∀ us : List Nat, i ∉ us → (wipeE env' us)[i]? = env'[i]? := fun us => by
        induction us with
        | nil => intro _; rfl
        | cons u us ih2 =>
          intro hu
          show ((wipeE env' us).set u none)[i]? = env'[i]?
          rw [List.getElem?_set_ne (fun z => hu (by rw [← z]; exact List.mem_cons_self)), ih2 fun z => hu (List.mem_cons_of_mem _ z)]
      rw [key vs hn]
      exact e
    refine kk acc _ f (.ref Dl) wd' H2 (le1.trans le) r6 ⟨Dl, us, rfl, p1, p2, p3, hc, ru, ⟨fun i ys e => ?_, fun i cs e => ?_⟩, hq⟩
    · rcases restE_some e with ⟨_, ⟨x, z⟩, _⟩ | ⟨hn, e⟩
      · cases z
      · intro z
        exact p4.o i ys (w0 hn e) (by rw [wipe_get hn]; exact z)
    · rcases restE_some e with ⟨_, ⟨x, z⟩, _⟩ | ⟨hn, e⟩
      · cases z
      · exact p4.c i cs (w0 hn e)
theorem jf_comp {elt iter : Expr} {ifs : List Expr} {scope : Scope} (own : List (Str × Nat)) {pos : Pos} {w : W (List D)} {g : WG} {wt : W Bool} {we : W D} (B : Bd X E k) (hi : JI T X E tg iter w) (ok : BlkOk X.N X.env.scope scope own)
    (hg : ∀ (s : Shared) (H : Hp) (C : Addr) (cl : List (Str × Addr)) (fp : List Addr), JG T (X.blk s H scope (compEnvC scope cl C X.env) fp) (own.map (·.2)) tg g)
    (ht : ∀ (s : Shared) (H : Hp) (C : Addr) (cl : List (Str × Addr)) (fp : List Addr), Bd (X.blk s H scope (compEnvC scope cl C X.env) fp) E0 k → JTs T (X.blk s H scope (compEnvC scope cl C X.env) fp) E0 ifs wt)
    (he : ∀ (s : Shared) (H : Hp) (C : Addr) (cl : List (Str × Addr)) (fp : List Addr), Bd (X.blk s H scope (compEnvC scope cl C X.env) fp) E0 k → JE T (X.blk s H scope (compEnvC scope cl C X.env) fp) E0 elt we)
    (hs : ∀ x, foldedSetIterable iter X.env x = pure x := by intro _; rfl) : JF T X E (.ListComp elt [⟨tg, iter, ifs, 0⟩] scope pos) (wComp w g wt we (own.map (·.2))) := by
  have Bb : ∀ (s : Shared) (H : Hp) (C : Addr) (cl : List (Str × Addr)) (fp : List Addr), Bd (X.blk s H scope (compEnvC scope cl C X.env) fp) E0 k := fun s H C cl fp => ⟨B.room, passL, PassesOwn.never, B.calm, B.nd⟩
  exact peI (pe_lc B.calm B.nd hi ok hg (fun s H C cl fp => ht s H C cl fp (Bb s H C cl fp)) (fun s H C cl fp => he s H C cl fp (Bb s H C cl fp)) hs) fun σ H Q h => lc_lift h
theorem js_setComp (i : Nat) {y : Str} {elt iter : Expr} {ifs : List Expr} {scope : Scope} (own : List (Str × Nat)) {pos spos py : Pos} {w : W (List D)} {g : WG} {wt : W Bool} {we : W D} (B : Bd X E k) (hi : JI T X E tg iter w) (ok : BlkOk X.N X.env.scope scope own)
    (hg : ∀ (s : Shared) (H : Hp) (C : Addr) (cl : List (Str × Addr)) (fp : List Addr), JG T (X.blk s H scope (compEnvC scope cl C X.env) fp) (own.map (·.2)) tg g)
    (ht : ∀ (s : Shared) (H : Hp) (C : Addr) (cl : List (Str × Addr)) (fp : List Addr), Bd (X.blk s H scope (compEnvC scope cl C X.env) fp) E0 k → JTs T (X.blk s H scope (compEnvC scope cl C X.env) fp) E0 ifs wt)
    (he : ∀ (s : Shared) (H : Hp) (C : Addr) (cl : List (Str × Addr)) (fp : List Addr), Bd (X.blk s H scope (compEnvC scope cl C X.env) fp) E0 k → JE T (X.blk s H scope (compEnvC scope cl C X.env) fp) E0 elt we)
    (hsw : swapsWith (.ListComp elt [⟨tg, iter, ifs, 0⟩] scope pos) (some (.Name y py)) spos.line X.env = pure true) (hy : X.N[i]? = some y := by rfl) (hyl : X.env.scope.names.lookup y = some .local := by rfl)
    (hs : ∀ x, foldedSetIterable iter X.env x = pure x := by intro _; rfl) : JS T X E (.Assign [.Name y py] (.ListComp elt [⟨tg, iter, ifs, 0⟩] scope pos) spos) (sSetOwn i (wComp w g wt we (own.map (·.2)))) := by
  have Bb : ∀ (s : Shared) (H : Hp) (C : Addr) (cl : List (Str × Addr)) (fp : List Addr), Bd (X.blk s H scope (compEnvC scope cl C X.env) fp) E0 k := fun s H C cl fp => ⟨B.room, passL, PassesOwn.never, B.calm, B.nd⟩
  exact psI (ps_setLc B.calm B.nd hy hyl hsw hi ok hg (fun s H C cl fp => ht s H C cl fp (Bb s H C cl fp)) (fun s H C cl fp => he s H C cl fp (Bb s H C cl fp)) hs) fun D σ H ⟨c, wd, env, pe, r, h, o⟩ =>
    lc_lift ⟨c, wd, env, _, _, r, h, o.ex, fun xs env' h' v wd' H' le r' f => o.nx _ h' _ wd' H' le (r'.ownF f)⟩
end
end Pd

namespace Pd
open PySem PySem.Spec PyProof.Rows L2 LamX

abbrev Fn := List D → (D → Prop) → (Xc → Prop) → Prop
def spec (K : PySem.W.Frag) (T : List (Addr × Str)) (F : Fn) : Sp := fun vs H Q E => ∃ (wd : Wd) (ds : List D) (P : D → Prop) (Ex : Xc → Prop), Good T wd H ∧ Reps K wd vs ds ∧ F ds P Ex ∧ XOk K T ⟨wd, H, []⟩ E Ex ∧
  ∀ d, P d → ∀ (v : V) (wd' : Wd) (H' : Hp), Ord wd wd' H → Good T wd' H' → Keep wd H H' → Rep K wd' v d → Q v H'
structure DefOk (P : Program) (w : World) (K : PySem.W.Frag) (mg : Str → Option Value) (base : Heap) (T : List (Addr × Str)) (x : Str) (k : Nat) (ps : List Str) (F : Fn) : Prop where
  ex : ∃ (f : Addr) (fd : FuncData), mg x = some (.ref f) ∧ PySem.W.keepIn K (.ref f) = true ∧ Binds K fd ps [] ∧ FnOk P w K mg base (L2.CX P w) k f fd ps (spec K T F) ∧ ∃ oc od osl, K.lookup f = some ⟨oc, od, .func fd, osl⟩
theorem DefOk.up {P : Program} {w : World} {K : PySem.W.Frag} {mg : Str → Option Value} {base : Heap} {T : List (Addr × Str)} {x : Str} {j k : Nat} {ps : List Str} {F : Fn} (d : DefOk P w K mg base T x j ps F) (h : j ≤ k) : DefOk P w K mg base T x k ps F := by
  obtain ⟨f, fd, a, b, c, e⟩ := d.ex
  exact ⟨f, fd, a, b, c, e.1.mono h, e.2⟩
section
variable {X : Cx} {T : List (Addr × Str)} {E : XK} {k : Nat}
def wCall (F : Fn) (a : W (List D)) : W D := a.bind fun ds env Q ex => F ds (fun d => Q d env) ex
theorem XOk.into {K : PySem.W.Frag} {c : Ctx} {E : XK} {Ex : Xc → Prop} {wd : Wd} {H : Hp} (x : XOk K T c E Ex) (o : Ord c.wd wd c.H) (kp : Keep c.wd c.H H) : XOk K T ⟨wd, H, []⟩ E Ex :=
  fun y hy cl dd wd' H' o' g' k' r => x y hy cl dd wd' H' (o.trans o' kp) g' (kp.trans o k') r
theorem lift_call {F : Fn} {a : W (List D)} {σ : L2.St} {H : Hp} {Q : VK} (h : lift X.K T (rE X.K) E (wCall F a) σ H Q) : tCall (spec X.K T F) [] E (lift X.K T (rA X.K) E a) σ H Q := by
  obtain ⟨c, wd, env, P, Ex, r, h, xo, kk⟩ := h
  refine ⟨c, wd, env, _, Ex, r, h, xo, fun ds env1 h1 vs wd1 H1 le1 r1 rp1 => ?_⟩
  show spec X.K T F (vs ++ []) H1 Q E
  rw [List.append_nil]
  exact ⟨wd1, ds, _, Ex, r1.good, rp1, h1, xo.into r1.ord r1.keep, fun d hd v wd2 H2 o2 g2 k2 rp2 => kk d env1 hd v wd2 H2 (le1.trans o2.le) (r1.go o2 g2 k2) rp2⟩
theorem je_call {x : Str} {ps : List Str} {F : Fn} {e : Expr} {es : List Expr} {a : W (List D)} {p pos : Pos} {j : Nat} (B : Bd X E k) (G : DefOk X.prog X.w X.K X.mg X.base T x j ps F) (ha : JA T X E (e :: es) a) (hj : j ≤ k := by decide) (hg : Gl X x := by rfl)
    (hdb : (x == ("__debug__" : Str)) = false := by decide) (he : starEach (e :: es) X.env = (false, eval e X.env) :: starEach es X.env := by rfl) (hpl : (backTo pos (starEach es X.env)).any (·.1) = false := by rfl) : JE T X E (.Call (.Name x p) (e :: es) [] pos) (wCall F a) := by
  obtain ⟨f, fd, g1, g2, g3, g4⟩ := G.ex
  exact peI (pe_call g4.1 (B.room.mono hj) hg g1 g2 g3 .nil B.pass ha hdb he hpl) fun σ H Q h => lift_call h
end
def startE (N : List Str) (ds : List D) : PEnv := ds.map (fun d => some (.d d)) ++ List.replicate (N.length - ds.length) none
section
variable {K : PySem.W.Frag} {T : List (Addr × Str)}
theorem reps_map {wd : Wd} {vs : List V} {ds : List D} (r : Reps K wd vs ds) {i : Nat} {s : Sl} (n : Nat) (h : (ds.map (fun d => some (Sl.d d)) ++ List.replicate n none)[i]? = some (some s)) :
    ∃ d v, s = .d d ∧ (vs.map some ++ List.replicate n none)[i]? = some (some v) ∧ Rep K wd v d := by
  by_cases hi : i < ds.length
  · rw [List.getElem?_append_left (by simpa using hi), List.getElem?_map] at h
    cases e : ds[i]? with
    | none =>
      rw [e] at h
      cases h
    | some d =>
      rw [e] at h
      cases h
      obtain ⟨v, e1, r1⟩ := r.get e
      refine ⟨d, v, rfl, ?_, r1⟩
      rw [List.getElem?_append_left (by rw [List.length_map, r.length]; exact hi), List.getElem?_map, e1]
      rfl
  · rw [List.getElem?_append_right (by simpa using hi), List.getElem?_replicate] at h
    split at h <;> cases h
theorem rel_start {wd : Wd} {H : Hp} {N : List Str} {vs : List V} {ds : List D} (g : Good T wd H) (r : Reps K wd vs ds) : Rel K T ⟨wd, H, []⟩ wd (startE N ds) (L2.start N vs) H := by
  have key : ∀ {i : Nat} {s : Sl}, (startE N ds)[i]? = some (some s) → ∃ d v, s = .d d ∧ (L2.start N vs)[i]? = some (some v) ∧ Rep K wd v d := fun {i s} h => by
    unfold startE at h
    unfold L2.start
    rw [r.length]
    exact reps_map r _ h
  refine ⟨Ord.refl _ _, g, Keep.refl _ _, ?_, fun i x e => ?_, fun i xs e => ?_, fun i j xs ys p e1 e2 e3 e4 => ?_, fun q hq => absurd hq (by simp), ⟨fun i p C fs e => ?_, fun i j p p' C C' fs gs e _ => ?_, fun i cs e => ?_, fun i cs e => ?_, fun i j cs ds e _ => ?_, fun i lk kvs e => ?_, fun i j lk lk' ks ls p e _ _ _ => ?_⟩⟩
  · unfold startE L2.start
    rw [List.length_append, List.length_append, List.length_map, List.length_map, List.length_replicate, List.length_replicate, r.length]
  · obtain ⟨d, v, z, h1, h2⟩ := key e
    cases z
    exact ⟨v, h1, h2⟩
  · obtain ⟨d, v, z, _⟩ := key e
    cases z
  · obtain ⟨d, v, z, _⟩ := key e1
    cases z
  all_goals
    obtain ⟨d, v, z, _⟩ := key e
    cases z
end
def dEnds (P : D → Prop) (Ex : Xc → Prop) : PEnds := { nx := fun _ => P .non, rt := P, ex := Ex }
section
variable {P : Program} {w : World} {K : PySem.W.Frag} {mg : Str → Option Value} {base : Heap} {T : List (Addr × Str)}
theorem def_ok {x : Str} {ag : Arguments} {body : List Stmt} {scope : Scope} {f : Addr} {fd : FuncData} {N ps : List Str} {k : Nat} {F : Fn} (D : FunD K x x ag body scope [] [] f fd) (S : FnScope N ps scope) (gm : mg x = some (.ref f)) (bn : Binds K fd ps [])
    (len : ∀ ds Q Ex, F ds Q Ex → ds.length = ps.length)
    (hd : ∀ (cdv : Value) (A : Around) (outer : List Env) (s : Shared) (H : Hp) (E : XK), Bd (cxOf (L2.CX P w) P w K mg base N x scope f cdv A outer s H E) E k → Takes (cxOf (L2.CX P w) P w K mg base N x scope f cdv A outer s H E) (fun cls d _ H => E cls d H) →
      ∃ wb, JSs T (cxOf (L2.CX P w) P w K mg base N x scope f cdv A outer s H E) E body wb ∧ ∀ ds Q Ex, F ds Q Ex → wb (dEnds Q Ex) (startE N ds)) : DefOk P w K mg base T x (k + 1) ps F := by
  refine ⟨f, fd, gm, D.kp, bn, ?_, by
    obtain ⟨oc, od, dV, kV, doc, pm, an, cdv, ct, osl, _, lk, _⟩ := D.ex
    exact ⟨oc, od, osl, lk⟩⟩
  refine D.ok S (fun vs H Q E h => ?_) (fun cdv A outer s H vs Q E hr h => ?_)
  · obtain ⟨wd, ds, P, Ex, _, r, h, _⟩ := h
    rw [r.length]
    exact len _ _ _ h
  · obtain ⟨wd, ds, P1, Ex, g, r, h, xo, kk⟩ := h
    have tk : Takes (cxOf (L2.CX P w) P w K mg base N x scope f cdv A outer s H E) (fun cls d _ H => E cls d H) := takes_of rfl rfl rfl rfl
    have B : Bd (cxOf (L2.CX P w) P w K mg base N x scope f cdv A outer s H E) E k := ⟨hr, passes_call tk fun _ _ _ _ h => h, passes_of rfl, rfl, S.nd⟩
    obtain ⟨wb, hj, hw⟩ := hd cdv A outer s H E B tk
    refine ⟨_, hj, ⟨wd, H, []⟩, wd, startE N ds, dEnds P1 Ex, rel_start g r, hw ds P1 Ex h, ⟨xo, fun env' hn σ' wd' H' le r' => ?_, fun d hd v wd' H' o' g' k' rp => kk d hd v wd' H' o' g' k' rp, fun _ z => z.elim, fun _ z => z.elim⟩⟩
    exact kk .non hn .non wd' H' r'.ord r'.good r'.keep .non
end
end Pd

namespace Pd
open PySem PySem.Spec PyProof.Rows L2 LamX

abbrev tupO (dd : Option Addr) (sl : Array (Option Value)) (items : Array Value) (n : Nat) : Obj := { cls := .type "tuple", dict := dd, data := .seq items n, slots := sl }
theorem mul_road {X : Cx} {pins : List (Addr × Obj)} {σ : L2.St} {s : Shared} {l : Addr} {k : Int} {t : Tok} {items : Array Value} {n : Nat} {dd : Option Addr} {sl : Array (Option Value)} {Q : VK} {S : PySem.Spec}
    (at_ : s.heap.get? l = some (tupO dd sl items n)) (own : Meets (Builtin.«tuple.__mul__» ⟨[.ref l, .int k t], []⟩) S)
    (told : S X.A (wants (EP X pins σ Q) X.xe) s) : wpAny (model X.prog X.w) X.A (binaryOp .Mult (.ref l) (.int k t)) (EP X pins σ Q) X.xe s := by
  have ty : s.TypeIs (.ref l) "tuple" := ⟨_, at_, rfl⟩
  have num : ∀ s' : Shared, s'.TypeIs (.int k t) "int" := fun s' => typeIs_int s' k t
  apply wpAny_binaryOp_repeat_ref (by decide) ty num noFill_tuple_mul F.fills_int_mul F.slot_int_rmul repeat_tuple F.slot_int_index.lookup
  apply call_meets F.slot_int_rmul (num s) F.entry_int_rmul (F.args_int_rmul_2 _ _) (int_rmul_tuple k t l items n dd sl)
  exact ⟨at_, rfl, ty, call_meets F.slot_tuple_mul ty F.entry_tuple_mul (F.args_tuple_mul_2 _ _) own told⟩
theorem mul_none {l : Addr} {items : Array Value} {n : Nat} {dd : Option Addr} {sl : Array (Option Value)} {k : Int} {u : Tok} (full : items.isEmpty = false) (k0 : k ≤ 0) (k1 : -1000 ≤ k) :
    Meets (Builtin.«tuple.__mul__» ⟨[.ref l, .int k u], []⟩) fun _ R s => s.heap.get? l = some (tupO dd sl items n) ∧ R (.ok (.ret (.ref s.heap.objs.size))) { s with heap := s.heap.push { cls := .type "tuple", data := .seq #[] } } := by
  apply Meets.of_wp
  rintro prog w A R ⟨hp, g, d, tk, os⟩ ⟨at_, told⟩
  have small : ¬ ((decide (k < -(2 ^ 63)) || decide (k ≥ 2 ^ 63)) = true) := by simp; omega
  have other : ¬ ((items.isEmpty || k == 1) = true) := by simp [full]; omega
  have none_ : (decide (k ≤ 0) || items.isEmpty) = true := by simp [k0]
  have ix := AutoSeq1.idx_int
  wp_walk using AutoSeq1.wpAny_loadPart' at_
  repeat (first
    | (apply wpAny_ite_false (decide_eq_false small); wp_walk using AutoSeq1.wpAny_loadPart' at_)
    | (apply wpAny_ite_false (decide_eq_false other); wp_walk using AutoSeq1.wpAny_loadPart' at_)
    | (apply wpAny_ite_true (decide_eq_true none_); wp_walk using AutoSeq1.wpAny_loadPart' at_))
  exact ⟨_, rfl, told⟩
def rRepN (K : PySem.W.Frag) : R2 := fun x y H Q => ∃ l k xs, x = .ref l ∧ y = .int k ∧ SqT K H l xs ∧ xs ≠ [] ∧ k ≤ 0 ∧ -1000 ≤ k ∧ ∀ p, H p = none → Q (.ref p) (upd H p (.tup []))
theorem op_repN {X : Cx} : OpR X (binaryOp .Mult) (rRepN X.K) := by
  intro pins s σ H x y v u Q I rx ry
  rintro ⟨l, k, xs, rfl, rfl, hT, some_, k0, k1, q⟩
  cases rx
  obtain ⟨t, rfl⟩ := ry
  obtain ⟨its, same, ⟨⟨_, dd, _, sl⟩, at_, rfl, n, rfl⟩, _⟩ := I.tuple hT
  have full : its.toArray.isEmpty = false := by
    cases same
    · exact (some_ rfl).elim
    · rfl
  have fresh : H s.heap.objs.size = none := I.hok.fresh (Nat.le_refl _)
  have laid := I.laid (t' := s.toks) (h' := s.heap.push { cls := .type "tuple", data := .seq #[] }) (o := .tup []) (fun _ _ e => Heap.get?_push_of_some _ e) (Nat.le_refl _) ⟨Nat.zero_le _, [], .nil, IsTup.new _ _⟩
  exact mul_road at_ (mul_none full k0 k1) ⟨at_, .ref s.heap.objs.size, _, laid, rfl, q _ fresh⟩
theorem mul_once {l : Addr} {items : Array Value} {n : Nat} {dd : Option Addr} {sl : Array (Option Value)} {u : Tok} :
    Meets (Builtin.«tuple.__mul__» ⟨[.ref l, .int 1 u], []⟩) fun _ R s => s.heap.get? l = some (tupO dd sl items n) ∧ R (.ok (.ret (.ref l))) s := by
  apply Meets.of_wp
  rintro prog w A R ⟨hp, g, d, tk, os⟩ ⟨at_, told⟩
  have ix := AutoSeq1.idx_int
  wp_walk using AutoSeq1.wpAny_loadPart' at_
  exact ⟨_, rfl, told⟩
def rOne (K : PySem.W.Frag) : R2 := fun x y H Q => ∃ l xs, x = .ref l ∧ y = .int 1 ∧ SqT K H l xs ∧ Q (.ref l) H
theorem op_one {X : Cx} : OpR X (binaryOp .Mult) (rOne X.K) := by
  intro pins s σ H x y v u Q I rx ry
  rintro ⟨l, xs, rfl, rfl, hT, q⟩
  cases rx
  obtain ⟨t, rfl⟩ := ry
  obtain ⟨its, _, ⟨⟨_, dd, _, sl⟩, at_, rfl, n, rfl⟩, _⟩ := I.tuple hT
  exact mul_road at_ mul_once ⟨at_, .ref l, H, I, rfl, q⟩

def dAdd : D → D → Option D
  | .int a, .int b => some (.int (a + b))
  | .tup xs, .tup ys => if xs.length + ys.length ≤ 1000000 then some (.tup (xs ++ ys)) else none
  | .lst xs, .lst ys => if xs.length + ys.length ≤ 1000000 then some (.lst (xs ++ ys)) else none
  | .str x, .str y => if x.length + y.length ≤ 1000000 then some (.str (x ++ y)) else none
  | _, _ => none
def dSub : D → D → Option D
  | .int a, .int b => some (.int (a - b))
  | _, _ => none
def dMul : D → D → Option D
  | .int a, .int b => if (a.natAbs < 2 ^ 64 ∨ b.natAbs < 2 ^ 64) ∨ a.natAbs.log2 + b.natAbs.log2 < 1000000 then some (.int (a * b)) else none
  | .tup xs, .int k => if xs ≠ [] ∧ -1000 ≤ k ∧ k ≤ 1000 ∧ xs.length ≤ 1000 then some (.tup (List.replicate k.toNat xs).flatten) else none
  | .lst xs, .int k => if -1000000 ≤ k ∧ k ≤ 1000000 ∧ xs.length * k.toNat ≤ 1000000 then some (.lst (List.replicate k.toNat xs).flatten) else none
  | _, _ => none
def dDiv : D → D → Option D
  | .int a, .int b => if 0 < b ∧ b.natAbs.log2 < 9000 then some (.int (a / b)) else none
  | _, _ => none
def dMod : D → D → Option D
  | .int a, .int b => if 0 < b then some (.int (a % b)) else none
  | _, _ => none
def dPow : D → D → Option D
  | .int a, .int b => if 0 ≤ b ∧ (Builtin.Int.intBits a : Int) * b ≤ 2 ^ 27 then some (.int (a ^ b.toNat)) else none
  | _, _ => none
def dCmp (p : Int → Int → Bool) : D → D → Option D
  | .int a, .int b => some (.bl (p a b))
  | _, _ => none
abbrev dLt := dCmp fun a b => decide (a < b)
abbrev dLe := dCmp fun a b => decide (a ≤ b)
abbrev dGt := dCmp fun a b => decide (b < a)
mutual
def toPy : D → PyData
  | .bl b => .bool b
  | .int i => .int i
  | .str x => .str x
  | .tup xs => .tuple (toPys xs)
  | .lst xs => .list (toPys xs)
  | _ => .none
def toPys : List D → List PyData
  | [] => []
  | x :: xs => toPy x :: toPys xs
end
def plain : Nat → D → Bool
  | 0, _ => false
  | n + 1, d => match d with
    | .non => true
    | .bl _ => true
    | .int _ => true
    | .str x => PyData.strOk x
    | .tup xs => xs.all (plain n)
    | .lst xs => xs.all (plain n)
    | _ => false
mutual
def eqb : D → D → Bool
  | .non, .non => true
  | .bl a, .bl b => a == b
  | .bl a, .int j => (if a then 1 else 0) == j
  | .int i, .bl b => i == (if b then 1 else 0)
  | .int i, .int j => i == j
  | .str x, .str y => x == y
  | .lst xs, .lst ys => eqbs xs ys
  | .tup xs, .tup ys => eqbs xs ys
  | _, _ => false
def eqbs : List D → List D → Bool
  | [], [] => true
  | x :: xs, y :: ys => eqb x y && eqbs xs ys
  | _, _ => false
end
def dEq (x y : D) : Option D := if plain 60 x && plain 60 y then some (.bl (eqb x y)) else none
def dNe (x y : D) : Option D := if plain 60 x && plain 60 y then some (.bl (!eqb x y)) else none
theorem ite_some {α : Type} {c : Prop} [Decidable c] {a z : α} (h : (if c then some a else none) = some z) : c ∧ a = z := by
  split at h
  · exact ⟨by assumption, Option.some.inj h⟩
  · cases h
mutual
theorem plain_lay : ∀ (n : Nat) (d : D), plain n d = true → (toPy d).canLay0 = true ∧ (toPy d).depth ≤ n
  | 0, d, h => by cases h
  | n + 1, .non, _ => by simp [toPy, PyData.canLay0, PyData.depth]
  | n + 1, .bl b, _ => by simp [toPy, PyData.canLay0, PyData.depth]
  | n + 1, .int b, _ => by simp [toPy, PyData.canLay0, PyData.depth]
  | n + 1, .str b, h => by
    have h' : PyData.strOk b = true := h
    simp [toPy, PyData.canLay0, PyData.depth, h']
  | n + 1, .tup xs, h => by
    have h' : xs.all (plain n) = true := h
    obtain ⟨a, b⟩ := plains_lay n xs h'
    simp only [toPy, PyData.canLay0, PyData.depth]
    exact ⟨a, by omega⟩
  | n + 1, .lst xs, h => by
    have h' : xs.all (plain n) = true := h
    obtain ⟨a, b⟩ := plains_lay n xs h'
    simp only [toPy, PyData.canLay0, PyData.depth]
    exact ⟨a, by omega⟩
  | n + 1, .scr _, h => by cases h
  | n + 1, .dic _, h => by cases h
  | n + 1, .dit _, h => by cases h
  | n + 1, .ins _ _, h => by cases h
  | n + 1, .box _, h => by cases h
  | n + 1, .raw _, h => by cases h
  | n + 1, .cls _, h => by cases h
theorem plains_lay : ∀ (n : Nat) (ds : List D), ds.all (plain n) = true → PyData.canLayAll0 (toPys ds) = true ∧ PyData.depthAll (toPys ds) ≤ n
  | n, [], _ => by simp [toPys, PyData.canLayAll0, PyData.depthAll]
  | n, d :: ds, h => by
    rw [List.all_cons, Bool.and_eq_true] at h
    obtain ⟨a, b⟩ := plain_lay n d h.1
    obtain ⟨a2, b2⟩ := plains_lay n ds h.2
    simp only [toPys, PyData.canLayAll0, PyData.depthAll, a, a2, Bool.and_self, true_and]
    omega
end

mutual
theorem eqv_eqb : ∀ (n : Nat) (x y : D), plain n x = true → plain n y = true → PyData.eqv (toPy x) (toPy y) = eqb x y
  | 0, x, _, h, _ => by cases h
  | n + 1, .non, y, _, hy => by cases y <;> first | rfl | cases hy
  | n + 1, .bl b, y, _, hy => by cases y <;> first | rfl | cases hy
  | n + 1, .int b, y, _, hy => by cases y <;> first | rfl | cases hy
  | n + 1, .str b, y, _, hy => by cases y <;> first | rfl | cases hy
  | n + 1, .tup xs, y, hx, hy => by
    cases y <;> first | rfl | cases hy | exact eqvs_eqbs n xs _ hx hy
  | n + 1, .lst xs, y, hx, hy => by
    cases y <;> first | rfl | cases hy | exact eqvs_eqbs n xs _ hx hy
  | n + 1, .scr _, _, h, _ => by cases h
  | n + 1, .dic _, _, h, _ => by cases h
  | n + 1, .dit _, _, h, _ => by cases h
  | n + 1, .ins _ _, _, h, _ => by cases h
  | n + 1, .box _, _, h, _ => by cases h
  | n + 1, .raw _, _, h, _ => by cases h
  | n + 1, .cls _, _, h, _ => by cases h
theorem eqvs_eqbs : ∀ (n : Nat) (xs ys : List D), xs.all (plain n) = true → ys.all (plain n) = true → PyData.eqvAll (toPys xs) (toPys ys) = eqbs xs ys
  | n, [], [], _, _ => rfl
  | n, [], _ :: _, _, _ => rfl
  | n, _ :: _, [], _, _ => rfl
  | n, x :: xs, y :: ys, hx, hy => by
    rw [List.all_cons, Bool.and_eq_true] at hx hy
    show (PyData.eqv (toPy x) (toPy y) && PyData.eqvAll (toPys xs) (toPys ys)) = (eqb x y && eqbs xs ys)
    rw [eqv_eqb n x y hx.1 hy.1, eqvs_eqbs n xs ys hx.2 hy.2]
end
section
variable {K : PySem.W.Frag} {T : List (Addr × Str)} {wd : Wd} {H : Hp}
mutual
theorem rep_dp (g : Good T wd H) : ∀ (n : Nat) {v : V} {d : D}, plain n d = true → Rep K wd v d → Dp K H v (toPy d)
  | 0, _, _, h, _ => by cases h
  | n + 1, _, _, _, .non => .non
  | n + 1, _, _, _, .bl b => .bl b
  | n + 1, _, _, _, .int b => .int b
  | n + 1, _, _, _, .str b => .str b
  | n + 1, _, _, h, .tup hs rs => .tup (sub_sqT g hs) (reps_dp g n h rs)
  | n + 1, _, _, h, .lst hs rs => .lst (sub_sqL g hs) (reps_dp g n h rs)
  | n + 1, _, _, h, .scr _ => by cases h
  | n + 1, _, _, h, .dic _ _ _ => by cases h
  | n + 1, _, _, h, .dit _ _ _ => by cases h
  | n + 1, _, _, h, .ins _ _ _ => by cases h
  | n + 1, _, _, h, .box _ => by cases h
  | n + 1, _, _, h, .raw _ => by cases h
  | n + 1, _, _, h, .cls _ => by cases h
theorem reps_dp (g : Good T wd H) : ∀ (n : Nat) {vs : List V} {ds : List D}, ds.all (plain n) = true → Reps K wd vs ds → DpAll K H vs (toPys ds)
  | n, _, _, _, .nil => .nil
  | n, _, _, h, .cons a b => by
    rw [List.all_cons, Bool.and_eq_true] at h
    exact .cons (rep_dp g n h.1 a) (reps_dp g n h.2 b)
end
end
theorem plain_shaped {d : D} (h : plain 60 d = true) : SeqAt.shaped (toPy d) = true := by
  obtain ⟨a, b⟩ := plain_lay 60 d h
  unfold SeqAt.shaped
  rw [a, Bool.true_and]
  exact decide_eq_true (Nat.le_trans b (by decide))
section
variable {X : Cx}
theorem opD_eq (hu : X.A.units + 64 < cLine) : OpD X (compareOp .Eq) dEq := ⟨_, op_eqD hu, fun x y z e T wd H v u Q g rx ry d => by
  obtain ⟨h, rfl⟩ := ite_some e
  rw [Bool.and_eq_true] at h
  refine ⟨toPy x, toPy y, rep_dp g 60 h.1 rx, rep_dp g 60 h.2 ry, plain_shaped h.1, plain_shaped h.2, ?_⟩
  rw [eqv_eqb 60 x y h.1 h.2]
  exact d.now (.bl _)⟩
theorem opD_ne (hu : X.A.units + 64 < cLine) : OpD X (compareOp .NotEq) dNe := ⟨_, op_neD hu, fun x y z e T wd H v u Q g rx ry d => by
  obtain ⟨h, rfl⟩ := ite_some e
  rw [Bool.and_eq_true] at h
  refine ⟨toPy x, toPy y, rep_dp g 60 h.1 rx, rep_dp g 60 h.2 ry, plain_shaped h.1, plain_shaped h.2, ?_⟩
  rw [eqv_eqb 60 x y h.1 h.2]
  exact d.now (.bl _)⟩
theorem cmp_of {op : CmpOp} {p : Int → Int → Bool} (h : OpR X (compareOp op) (rI0 fun i j => .bl (p i j))) : OpD X (compareOp op) (dCmp p) := ⟨_, h, fun x y z e T wd H v u Q g rx ry d => by
  cases rx <;> first | cases e | skip
  cases ry <;> first | cases e | skip
  exact ⟨_, _, rfl, rfl, d.now (.bl _)⟩⟩
theorem opD_lt : OpD X (compareOp .Lt) dLt := cmp_of op_lt
theorem opD_le : OpD X (compareOp .LtE) dLe := cmp_of op_le
theorem opD_gt : OpD X (compareOp .Gt) dGt := cmp_of op_gt
theorem opD_sub : OpD X (binaryOp .Sub) dSub := ⟨_, op_sub, fun x y z e T wd H v u Q g rx ry d => by
  cases rx <;> first | cases e | skip
  cases ry <;> first | cases e | skip
  exact ⟨_, _, rfl, rfl, d.now (.int _)⟩⟩
theorem opD_mod : OpD X (binaryOp .Mod) dMod := ⟨_, op_mod, fun x y z e T wd H v u Q g rx ry d => by
  cases rx <;> first | cases e | skip
  cases ry <;> first | cases e | skip
  obtain ⟨h, rfl⟩ := ite_some e
  exact ⟨_, _, rfl, rfl, h, d.now (.int _)⟩⟩
theorem opD_div : OpD X (binaryOp .FloorDiv) dDiv := ⟨_, op_fdivW, fun x y z e T wd H v u Q g rx ry d => by
  cases rx <;> first | cases e | skip
  cases ry <;> first | cases e | skip
  obtain ⟨h, rfl⟩ := ite_some e
  exact ⟨_, _, rfl, rfl, h, d.now (.int _)⟩⟩
theorem op_powB : OpR X (binaryOp .Pow) (rI (fun i j => 0 ≤ j ∧ (Builtin.Int.intBits i : Int) * j ≤ 2 ^ 27) fun i j => .int (i ^ j.toNat)) := opI fun _ _ _ _ _ _ _ hc q => pow_int hc.1 hc.2 q
theorem opD_pow : OpD X (binaryOp .Pow) dPow := ⟨_, op_powB, fun x y z e T wd H v u Q g rx ry d => by
  cases rx <;> first | cases e | skip
  cases ry <;> first | cases e | skip
  obtain ⟨h, rfl⟩ := ite_some e
  exact ⟨_, _, rfl, rfl, h, d.now (.int _)⟩⟩
theorem opD_add : OpD X (binaryOp .Add) dAdd := ⟨_, ((op_add.or op_catA).or op_cat).or op_add_str, fun x y z e T wd H v u Q g rx ry d => by
  cases rx with
  | int a =>
    cases ry with
    | int b =>
      cases e
      exact .inl (.inl (.inl ⟨_, _, rfl, rfl, d.now (.int _)⟩))
    | _ => cases e
  | str a =>
    cases ry with
    | str b =>
      obtain ⟨h, rfl⟩ := ite_some e
      exact .inr ⟨_, _, rfl, rfl, sz6 h, d.now (.str _)⟩
    | _ => cases e
  | tup h1 r1 =>
    cases ry with
    | tup h2 r2 =>
      obtain ⟨h, rfl⟩ := ite_some e
      have hz := sz6 h
      rw [← r1.length, ← r2.length] at hz
      refine .inl (.inl (.inr ⟨_, _, _, _, rfl, rfl, sub_sqT g h1, sub_sqT g h2, hz, fun z => ?_, fun _ z => ?_, fun _ _ p hp => ?_⟩))
      · rw [z] at r1
        cases r1
        exact d.now (.tup h2 r2)
      · rw [z] at r2
        cases r2
        rw [List.append_nil] at d
        exact d.now (.tup h1 r1)
      · exact d.tup g hp (r1.append r2) (by rw [List.length_append]; exact hz)
    | _ => cases e
  | lst h1 r1 =>
    cases ry with
    | lst h2 r2 =>
      obtain ⟨h, rfl⟩ := ite_some e
      have hz := sz6 h
      rw [← r1.length, ← r2.length] at hz
      exact .inl (.inr ⟨_, _, _, _, rfl, rfl, g.sub _ _ h1, g.sub _ _ h2, hz, fun p hp => d.lst g hp (r1.append r2) (by rw [List.length_append]; exact hz)⟩)
    | _ => cases e
  | _ => cases e⟩
theorem rep_len {α : Type} (n : Nat) (xs : List α) : (List.replicate n xs).flatten.length = n * xs.length := by
  induction n with
  | zero => simp
  | succ n ih =>
    rw [List.replicate_succ, List.flatten_cons, List.length_append, ih, Nat.succ_mul]
    omega
theorem rep_one {α : Type} (xs : List α) : (List.replicate (Int.toNat 1) xs).flatten = xs := by
  show (List.replicate 1 xs).flatten = xs
  rw [List.replicate_succ, List.replicate_zero, List.flatten_cons, List.flatten_nil, List.append_nil]
theorem opD_mul : OpD X (binaryOp .Mult) dMul := ⟨_, ((((op_mul.or op_mulW).or op_repT).or op_rep).or op_one).or op_repN, fun x y z e T wd H v u Q g rx ry d => by
  cases rx with
  | int a =>
    cases ry with
    | int b =>
      obtain ⟨h, rfl⟩ := ite_some e
      rcases h with h | h
      · refine .inl (.inl (.inl (.inl (.inl ⟨_, _, rfl, rfl, ?_, d.now (.int _)⟩))))
        rcases h with h | h
        · exact .inl ⟨by omega, by omega⟩
        · exact .inr ⟨by omega, by omega⟩
      · exact .inl (.inl (.inl (.inl (.inr ⟨_, _, rfl, rfl, h, d.now (.int _)⟩))))
    | _ => cases e
  | tup h1 r1 =>
    cases ry with
    | int b =>
      obtain ⟨h, rfl⟩ := ite_some e
      obtain ⟨q1, q2, q3, q4⟩ := h
      by_cases q5 : b = 1
      · subst q5
        refine .inl (.inr ⟨_, _, rfl, rfl, sub_sqT g h1, d.now ?_⟩)
        rw [rep_one]
        exact .tup h1 r1
      by_cases q6 : b ≤ 0
      · rw [show b.toNat = 0 by omega] at d
        refine .inr ⟨_, _, _, rfl, rfl, sub_sqT g h1, fun z => ?_, q6, q2, fun p hp => d.tup g hp .nil (Nat.zero_le _)⟩
        rw [z] at r1
        cases r1
        exact q1 rfl
      refine .inl (.inl (.inl (.inr ⟨_, _, _, rfl, rfl, sub_sqT g h1, fun z => ?_, by omega, q3, by rw [r1.length]; exact q4, fun p hp => d.tup g hp (r1.rep _) ?_⟩)))
      · rw [z] at r1
        cases r1
        exact q1 rfl
      · rw [rep_len, r1.length]
        have m1 : b.toNat * _ ≤ 1000 * 1000 := Nat.mul_le_mul (show b.toNat ≤ 1000 by omega) q4
        exact Nat.le_trans m1 (by decide)
    | _ => cases e
  | lst h1 r1 =>
    cases ry with
    | int b =>
      obtain ⟨h, rfl⟩ := ite_some e
      obtain ⟨q1, q2, q3⟩ := h
      have hz : _ * b.toNat ≤ sizeLine := sz6 q3
      rw [← r1.length] at hz
      refine .inl (.inl (.inr ⟨_, _, _, rfl, rfl, g.sub _ _ h1, by omega, by omega, hz, fun p hp => d.lst g hp (r1.rep _) ?_⟩))
      rw [rep_len, Nat.mul_comm]
      exact hz
    | _ => cases e
  | _ => cases e⟩
def dIs : D → D → Option D
  | .bl a, .bl b => some (.bl (decide (a = b)))
  | .non, .non => some (.bl true)
  | .bl _, .non => some (.bl false)
  | .int _, .non => some (.bl false)
  | .str _, .non => some (.bl false)
  | .tup _, .non => some (.bl false)
  | .lst _, .non => some (.bl false)
  | .dic _, .non => some (.bl false)
  | .ins _ _, .non => some (.bl false)
  | _, _ => none
def dNot : Option D → Option D
  | some (.bl b) => some (.bl (!b))
  | _ => none
def dIsNot (x y : D) : Option D := dNot (dIs x y)
theorem opD_is : OpD X (compareOp .Is) dIs := ⟨_, op_isN.or op_isBl, fun x y z e T wd H v u Q g rx ry d => by
  cases ry with
  | non => cases rx <;> first | (cases e; exact .inl ⟨rfl, d.now (.bl _)⟩) | cases e
  | bl b => cases rx <;> first | (cases e; exact .inr ⟨_, _, rfl, rfl, d.now (.bl _)⟩) | cases e
  | _ => cases rx <;> cases e⟩
theorem opD_isNot : OpD X (compareOp .IsNot) dIsNot := ⟨_, op_notN.or op_notBl, fun x y z e T wd H v u Q g rx ry d => by
  cases ry with
  | non => cases rx <;> first | (cases e; exact .inl ⟨rfl, d.now (.bl _)⟩) | cases e
  | bl b => cases rx <;> first | (cases e; exact .inr ⟨_, _, rfl, rfl, d.now (.bl _)⟩) | cases e
  | _ => cases rx <;> cases e⟩
def dIn : D → D → Option D
  | x, .lst ys => if plain 59 x && ys.all (plain 59) then some (.bl (ys.any fun y => eqb y x)) else none
  | x, .tup ys => if plain 59 x && ys.all (plain 59) then some (.bl (ys.any fun y => eqb y x)) else none
  | _, _ => none
def rInT (K : PySem.W.Frag) (b : Bool) : R2 := fun x y H Q => ∃ d ds, Dp K H x d ∧ Dp K H y (.tuple ds) ∧ SeqAt.shaped d = true ∧ SeqAt.shaped (.tuple ds) = true ∧ Q (.bl (xor b (ds.any fun z => PyData.eqv z d))) H
theorem op_inT (hu : X.A.units + 65 < cLine) : OpR X (compareOp .In) (rInT X.K false) := by
  rintro pins s σ H x y v u Q I rx ry ⟨d, ds, hd, he, sd, se, q⟩
  obtain ⟨as, r1⟩ := Dp.reads I d x v hd rx
  obtain ⟨bs, r2⟩ := Dp.reads I (.tuple ds) y u he ry
  refine SeqAt.in_tuple_reads r2 r1 (SeqAt.canLay_of_shaped se) (SeqAt.canLay_of_shaped sd) (room_in_shaped sd hu) ⟨.bl _, H, I, rfl, ?_⟩
  rw [Bool.false_xor] at q
  exact q
theorem op_notInT (hu : X.A.units + 65 < cLine) : OpR X (compareOp .NotIn) (rInT X.K true) := by
  rintro pins s σ H x y v u Q I rx ry ⟨d, ds, hd, he, sd, se, q⟩
  obtain ⟨as, r1⟩ := Dp.reads I d x v hd rx
  obtain ⟨bs, r2⟩ := Dp.reads I (.tuple ds) y u he ry
  refine SeqAt.notIn_tuple_reads r2 r1 (SeqAt.canLay_of_shaped se) (SeqAt.canLay_of_shaped sd) (room_in_shaped sd hu) ⟨.bl _, H, I, rfl, ?_⟩
  rw [Bool.true_xor] at q
  exact q
def dNotIn (x y : D) : Option D := dNot (dIn x y)
theorem any_py : ∀ (ys : List D) (x : D), plain 59 x = true → ys.all (plain 59) = true → ((toPys ys).any fun z => PyData.eqv z (toPy x)) = ys.any fun y => eqb y x
  | [], _, _, _ => rfl
  | y :: ys, x, hx, hy => by
    rw [List.all_cons, Bool.and_eq_true] at hy
    show (PyData.eqv (toPy y) (toPy x) || (toPys ys).any fun z => PyData.eqv z (toPy x)) = (eqb y x || ys.any fun y => eqb y x)
    rw [eqv_eqb 59 y x hy.1 hx, any_py ys x hx hy.2]
theorem plain_up {d : D} (h : plain 59 d = true) : SeqAt.shaped (toPy d) = true := by
  obtain ⟨a, b⟩ := plain_lay 59 d h
  unfold SeqAt.shaped
  rw [a, Bool.true_and]
  exact decide_eq_true (Nat.le_trans b (by decide))
theorem opD_in (hu : X.A.units + 65 < cLine) : OpD X (compareOp .In) dIn := ⟨_, (op_inD hu).or (op_inT hu), fun x y z e T wd H v u Q g rx ry d => by
  cases ry with
  | tup hs rs =>
    obtain ⟨h, rfl⟩ := ite_some e
    rw [Bool.and_eq_true] at h
    refine .inr ⟨toPy x, toPys _, rep_dp g 59 h.1 rx, .tup (sub_sqT g hs) (reps_dp g 59 h.2 rs), plain_up h.1, plain_shaped (d := .tup _) h.2, ?_⟩
    rw [any_py _ x h.1 h.2, Bool.false_xor]
    exact d.now (.bl _)
  | lst hs rs =>
    obtain ⟨h, rfl⟩ := ite_some e
    rw [Bool.and_eq_true] at h
    refine .inl ⟨toPy x, toPys _, rep_dp g 59 h.1 rx, .lst (sub_sqL g hs) (reps_dp g 59 h.2 rs), plain_up h.1, plain_shaped (d := .lst _) h.2, ?_⟩
    rw [any_py _ x h.1 h.2]
    exact d.now (.bl _)
  | _ => cases e⟩
theorem opD_notIn (hu : X.A.units + 65 < cLine) : OpD X (compareOp .NotIn) dNotIn := ⟨_, (op_notInD hu).or (op_notInT hu), fun x y z e T wd H v u Q g rx ry d => by
  cases ry with
  | tup hs rs =>
    have e1 : dNot (if (plain 59 x && List.all _ (plain 59)) = true then some (D.bl (List.any _ fun y => eqb y x)) else none) = some z := e
    split at e1
    · rename_i h
      rw [Bool.and_eq_true] at h
      cases e1
      refine .inr ⟨toPy x, toPys _, rep_dp g 59 h.1 rx, .tup (sub_sqT g hs) (reps_dp g 59 h.2 rs), plain_up h.1, plain_shaped (d := .tup _) h.2, ?_⟩
      rw [any_py _ x h.1 h.2, Bool.true_xor]
      exact d.now (.bl _)
    · cases e1
  | lst hs rs =>
    have e1 : dNot (if (plain 59 x && List.all _ (plain 59)) = true then some (D.bl (List.any _ fun y => eqb y x)) else none) = some z := e
    split at e1
    · rename_i h
      rw [Bool.and_eq_true] at h
      cases e1
      refine .inl ⟨toPy x, toPys _, rep_dp g 59 h.1 rx, .lst (sub_sqL g hs) (reps_dp g 59 h.2 rs), plain_up h.1, plain_shaped (d := .lst _) h.2, ?_⟩
      rw [any_py _ x h.1 h.2]
      exact d.now (.bl _)
    · cases e1
  | _ => cases e⟩
end
end Pd

namespace Pd
open PySem PySem.Spec PyProof.Rows L2 LamX

section
variable {X : Cx} {T : List (Addr × Str)} {E : XK} {k : Nat}
structure CallB (X : Cx) (f : Value) (g : D → Option D) : Prop where
  ex : ∃ r : List V → Hp → VK → Prop, CallR X f r ∧ ∀ (x z : D), g x = some z → ∀ (T : List (Addr × Str)) (wd : Wd) (H : Hp) (v : V) (Q : VK), Good T wd H → Top X.K wd H v x → Del X.K wd H z Q → r [v] H Q
structure CallN (X : Cx) (f : Value) (g : List D → Option D) : Prop where
  ex : ∃ r : List V → Hp → VK → Prop, CallR X f r ∧ ∀ (xs : List D) (z : D), g xs = some z → ∀ (T : List (Addr × Str)) (wd : Wd) (H : Hp) (vs : List V) (Q : VK), Good T wd H → Reps X.K wd vs xs → Del X.K wd H z Q → r vs H Q
def DelF (K : PySem.W.Frag) (wd : Wd) (H : Hp) (zs : List D) (Q : VK) : Prop := ∀ (p : Addr) (us : List V), H p = none → Reps K wd us zs → us.length ≤ sizeLine → Q (.ref p) (upd H p (.lst us))
structure CallF (X : Cx) (f : Value) (g : D → Option (List D)) : Prop where
  ex : ∃ r : List V → Hp → VK → Prop, CallR X f r ∧ ∀ (x : D) (zs : List D), g x = some zs → ∀ (T : List (Addr × Str)) (wd : Wd) (H : Hp) (v : V) (Q : VK), Good T wd H → Top X.K wd H v x → DelF X.K wd H zs Q → r [v] H Q
def w1 (g : D → Option D) (a : W D) : W D := a.bind fun x => .opt (g x)
def wN (g : List D → Option D) (a : W (List D)) : W D := a.bind fun x => .opt (g x)
def w1F (g : D → Option (List D)) (a : W D) : W (List D) := a.bind fun x => .opt (g x)
section
variable {x : Str} {p pos : Pos} {e : Expr} {es : List Expr} {id ty : String} {a : W D} {w : W (List D)}
theorem lift_1 {r : List V → Hp → VK → Prop} {g : D → Option D} {σ : L2.St} {H : Hp} {Q : VK}
    (hr : ∀ (x z : D), g x = some z → ∀ (T : List (Addr × Str)) (wd : Wd) (H : Hp) (v : V) (Q : VK), Good T wd H → Top X.K wd H v x → Del X.K wd H z Q → r [v] H Q)
    (h : lift X.K T (rE X.K) E (w1 g a) σ H Q) : tCB r (tCons (lift X.K T (rB X.K) E a) tNil) σ H Q := by
  obtain ⟨c, wd, env, P, Ex, rl, h, xo, k⟩ := h
  refine ⟨c, wd, env, _, Ex, rl, h, xo, fun x env1 h1 v wd1 H1 le1 r1 tp => ?_⟩
  obtain ⟨z, e1, h2⟩ := opt_inv h1
  exact hr x z e1 T wd1 H1 v Q r1.good tp fun w wd2 H2 g2 rp => k z env1 h2 w wd2 H2 (le1.trans (g2.le r1.good)) (r1.grow g2) rp
theorem lift_1F {r : List V → Hp → VK → Prop} {g : D → Option (List D)} {σ : L2.St} {H : Hp} {Q : VK}
    (hr : ∀ (x : D) (zs : List D), g x = some zs → ∀ (T : List (Addr × Str)) (wd : Wd) (H : Hp) (v : V) (Q : VK), Good T wd H → Top X.K wd H v x → DelF X.K wd H zs Q → r [v] H Q)
    (h : lift X.K T (rF X.K) E (w1F g a) σ H Q) : tCB r (tCons (lift X.K T (rB X.K) E a) tNil) σ H Q := by
  obtain ⟨c, wd, env, P, Ex, rl, h, xo, k⟩ := h
  refine ⟨c, wd, env, _, Ex, rl, h, xo, fun x env1 h1 v wd1 H1 le1 r1 tp => ?_⟩
  obtain ⟨z, e1, h2⟩ := opt_inv h1
  refine hr x z e1 T wd1 H1 v Q r1.good tp fun p us hp ru hz => ?_
  obtain ⟨r2, f⟩ := r1.fresh hp ru hz
  exact k z env1 h2 _ wd1 _ le1 r2 f
theorem lift_N {r : List V → Hp → VK → Prop} {g : List D → Option D} {σ : L2.St} {H : Hp} {Q : VK}
    (hr : ∀ (xs : List D) (z : D), g xs = some z → ∀ (T : List (Addr × Str)) (wd : Wd) (H : Hp) (vs : List V) (Q : VK), Good T wd H → Reps X.K wd vs xs → Del X.K wd H z Q → r vs H Q)
    (h : lift X.K T (rE X.K) E (wN g w) σ H Q) : tCB r (lift X.K T (rA X.K) E w) σ H Q := by
  obtain ⟨c, wd, env, P, Ex, rl, h, xo, k⟩ := h
  refine ⟨c, wd, env, _, Ex, rl, h, xo, fun x env1 h1 v wd1 H1 le1 r1 tp => ?_⟩
  obtain ⟨z, e1, h2⟩ := opt_inv h1
  exact hr x z e1 T wd1 H1 v Q r1.good tp fun w wd2 H2 g2 rp => k z env1 h2 w wd2 H2 (le1.trans (g2.le r1.good)) (r1.grow g2) rp
theorem je_b1 {g : D → Option D} (hc : CallB X (.builtin id) g) (hm : X.mg x = none) (hv : bootBuiltins x = some (.builtin id)) (ha : JB T X E e a) (hg : Gl X x := by rfl) (hn : x ≠ "__name__" := by decide) (hdb : (x == ("__debug__" : Str)) = false := by decide)
    (hs : starEach [e] X.env = (false, eval e X.env) :: starEach [] X.env := by rfl) (hpl : (backTo pos (starEach [] X.env)).any (·.1) = false := by rfl) : JE T X E (.Call (.Name x p) [e] [] pos) (w1 g a) := by
  obtain ⟨r, h1, h2⟩ := hc.ex
  exact peI (pe_callB h1 hg hm hv (pa_cons ha pa_nil hs) hn hdb hs hpl) fun σ H Q h => lift_1 h2 h
theorem je_t1 {g : D → Option D} (hc : CallB X (.type ty) g) (hm : X.mg x = none) (hv : bootBuiltins x = some (.type ty)) (ha : JB T X E e a) (hg : Gl X x := by rfl) (hn : x ≠ "__name__" := by decide) (hdb : (x == ("__debug__" : Str)) = false := by decide)
    (hs : starEach [e] X.env = (false, eval e X.env) :: starEach [] X.env := by rfl) (hpl : (backTo pos (starEach [] X.env)).any (·.1) = false := by rfl) : JE T X E (.Call (.Name x p) [e] [] pos) (w1 g a) := by
  obtain ⟨r, h1, h2⟩ := hc.ex
  exact peI (pe_callTy h1 hg hm hv (pa_cons ha pa_nil hs) hn hdb hs hpl) fun σ H Q h => lift_1 h2 h
theorem jf_t1 {g : D → Option (List D)} (hc : CallF X (.type ty) g) (hm : X.mg x = none) (hv : bootBuiltins x = some (.type ty)) (ha : JB T X E e a) (hg : Gl X x := by rfl) (hn : x ≠ "__name__" := by decide) (hdb : (x == ("__debug__" : Str)) = false := by decide)
    (hs : starEach [e] X.env = (false, eval e X.env) :: starEach [] X.env := by rfl) (hpl : (backTo pos (starEach [] X.env)).any (·.1) = false := by rfl) : JF T X E (.Call (.Name x p) [e] [] pos) (w1F g a) := by
  obtain ⟨r, h1, h2⟩ := hc.ex
  exact peI (pe_callTy h1 hg hm hv (pa_cons ha pa_nil hs) hn hdb hs hpl) fun σ H Q h => lift_1F h2 h
theorem je_bN {g : List D → Option D} (hc : CallN X (.builtin id) g) (hm : X.mg x = none) (hv : bootBuiltins x = some (.builtin id)) (ha : JA T X E (e :: es) w) (hg : Gl X x := by rfl) (hn : x ≠ "__name__" := by decide) (hdb : (x == ("__debug__" : Str)) = false := by decide)
    (hs : starEach (e :: es) X.env = (false, eval e X.env) :: starEach es X.env := by rfl) (hpl : (backTo pos (starEach es X.env)).any (·.1) = false := by rfl) : JE T X E (.Call (.Name x p) (e :: es) [] pos) (wN g w) := by
  obtain ⟨r, h1, h2⟩ := hc.ex
  exact peI (pe_callB h1 hg hm hv ha hn hdb hs hpl) fun σ H Q h => lift_N h2 h
end
def dLen : D → Option D
  | .tup xs => some (.int xs.length)
  | .lst xs => some (.int xs.length)
  | .scr ns => some (.int ns.length)
  | .str z => if z.length ≤ 1000000 then some (.int z.length) else none
  | _ => none
theorem top_lst {K : PySem.W.Frag} {wd : Wd} {H : Hp} {v : V} {xs : List D} (g : Good T wd H) (t : Top K wd H v (.lst xs)) : ∃ (p : Addr) (vs : List V), v = .ref p ∧ H p = some (.lst vs) ∧ Reps K wd vs xs := by
  rcases t with h | ⟨p, vs, ys, rfl, e, h1, h2⟩
  · cases h with
    | lst h1 h2 => exact ⟨_, _, rfl, g.sub _ _ h1, h2⟩
  · cases e
    exact ⟨p, vs, rfl, h1, h2⟩
theorem top_tup {K : PySem.W.Frag} {wd : Wd} {H : Hp} {v : V} {xs : List D} (g : Good T wd H) (t : Top K wd H v (.tup xs)) : ∃ (p : Addr) (vs : List V), v = .ref p ∧ SqT K H p vs ∧ wd.M p = some (.tup vs) ∧ Reps K wd vs xs := by
  rcases t with h | ⟨p, vs, ys, rfl, e, h1, h2⟩
  · cases h with
    | tup h1 h2 => exact ⟨_, _, rfl, sub_sqT g h1, h1, h2⟩
  · cases e
theorem top_rep {K : PySem.W.Frag} {wd : Wd} {H : Hp} {v : V} {d : D} (t : Top K wd H v d) (h : ∀ xs, d ≠ .lst xs) : Rep K wd v d := by
  rcases t with t | ⟨p, vs, ys, rfl, e, h1, h2⟩
  · exact t
  · exact absurd e (h ys)
theorem cb_len : CallB X (.builtin "len") dLen := ⟨_, call_len, fun x z e T wd H v Q g t d => by
  cases x with
  | tup xs =>
    cases e
    obtain ⟨p, vs, rfl, h1, _, h2⟩ := top_tup g t
    exact ⟨_, _, rfl, .inr ⟨_, h1, h2.length.symm⟩, d.now (.int _)⟩
  | lst xs =>
    cases e
    obtain ⟨p, vs, rfl, h1, h2⟩ := top_lst g t
    exact ⟨_, _, rfl, .inl ⟨_, .inl (.inl h1), h2.length.symm⟩, d.now (.int _)⟩
  | scr ns =>
    cases e
    cases top_rep t (fun _ z => nomatch z) with
    | scr h => exact ⟨_, _, rfl, .inl ⟨_, sub_sqS g h, (List.length_map ..).symm⟩, d.now (.int _)⟩
  | str y =>
    obtain ⟨h, rfl⟩ := ite_some e
    cases top_rep t (fun _ z => nomatch z)
    exact ⟨_, _, rfl, ⟨sz6 h, rfl⟩, d.now (.int _)⟩
  | _ => cases e⟩
def asBools : List D → Option (List Bool)
  | [] => some []
  | .bl b :: r => (asBools r).map (b :: ·)
  | _ => none
def asInts : List D → Option (List Int)
  | [] => some []
  | .int b :: r => (asInts r).map (b :: ·)
  | _ => none
theorem asBools_eq : ∀ {xs : List D} {bs : List Bool}, asBools xs = some bs → xs = bs.map D.bl
  | [], _, h => by cases h; rfl
  | .bl b :: r, bs, h => by
    have h' : (asBools r).map (b :: ·) = some bs := h
    obtain ⟨cs, e, rfl⟩ := Option.map_eq_some_iff.mp h'
    rw [asBools_eq e]
    rfl
  | .non :: _, _, h => by cases h
  | .int _ :: _, _, h => by cases h
  | .str _ :: _, _, h => by cases h
  | .tup _ :: _, _, h => by cases h
  | .lst _ :: _, _, h => by cases h
  | .scr _ :: _, _, h => by cases h
  | .dic _ :: _, _, h => by cases h
  | .dit _ :: _, _, h => by cases h
  | .ins _ _ :: _, _, h => by cases h
  | .box _ :: _, _, h => by cases h
  | .raw _ :: _, _, h => by cases h
  | .cls _ :: _, _, h => by cases h
theorem asInts_eq : ∀ {xs : List D} {bs : List Int}, asInts xs = some bs → xs = bs.map D.int
  | [], _, h => by cases h; rfl
  | .int b :: r, bs, h => by
    have h' : (asInts r).map (b :: ·) = some bs := h
    obtain ⟨cs, e, rfl⟩ := Option.map_eq_some_iff.mp h'
    rw [asInts_eq e]
    rfl
  | .non :: _, _, h => by cases h
  | .bl _ :: _, _, h => by cases h
  | .str _ :: _, _, h => by cases h
  | .tup _ :: _, _, h => by cases h
  | .lst _ :: _, _, h => by cases h
  | .scr _ :: _, _, h => by cases h
  | .dic _ :: _, _, h => by cases h
  | .dit _ :: _, _, h => by cases h
  | .ins _ _ :: _, _, h => by cases h
  | .box _ :: _, _, h => by cases h
  | .raw _ :: _, _, h => by cases h
  | .cls _ :: _, _, h => by cases h
theorem asInts_map : ∀ ns : List Int, asInts (ns.map D.int) = some ns
  | [] => rfl
  | n :: ns => by
    show (asInts (ns.map D.int)).map (n :: ·) = some (n :: ns)
    rw [asInts_map ns]
    rfl
theorem asBools_map : ∀ ns : List Bool, asBools (ns.map D.bl) = some ns
  | [] => rfl
  | n :: ns => by
    show (asBools (ns.map D.bl)).map (n :: ·) = some (n :: ns)
    rw [asBools_map ns]
    rfl
def dAll : D → Option D
  | .lst xs => (asBools xs).map fun bs => .bl (bs.all id)
  | _ => none
def dAny : D → Option D
  | .lst xs => (asBools xs).map fun bs => .bl (bs.any id)
  | _ => none
theorem cb_all (hc : X.calm = true) : CallB X (.builtin "all") dAll := ⟨_, cr_all hc, fun x z e T wd H v Q g t d => by
  cases x with
  | lst xs =>
    obtain ⟨bs, e1, rfl⟩ := Option.map_eq_some_iff.mp e
    obtain ⟨p, vs, rfl, h1, h2⟩ := top_lst g t
    rw [asBools_eq e1] at h2
    rw [h2.bools] at h1
    exact ⟨_, bs, rfl, .inl (.inl h1), d.now (.bl _)⟩
  | _ => cases e⟩
theorem cb_any (hc : X.calm = true) : CallB X (.builtin "any") dAny := ⟨_, cr_any hc, fun x z e T wd H v Q g t d => by
  cases x with
  | lst xs =>
    obtain ⟨bs, e1, rfl⟩ := Option.map_eq_some_iff.mp e
    obtain ⟨p, vs, rfl, h1, h2⟩ := top_lst g t
    rw [asBools_eq e1] at h2
    rw [h2.bools] at h1
    exact ⟨_, bs, rfl, .inl (.inl h1), d.now (.bl _)⟩
  | _ => cases e⟩
theorem sum_tup {prog : Program} {w : World} {A : Around} {E : Value → Shared → Prop} {s : Shared} {l : Addr} {its : List Value} {ns : List Int} {Q : Value → Shared → Prop} (hh : A.handled = none) (hl : s.heap.IsTuple l its.toArray) (hi : IntsAre its ns)
    (h : ∀ h' tk t', (∀ b o, s.heap.get? b = some o → h'.get? b = some o) → Q (.int ns.sum t') { s with heap := h', toks := tk }) : wpAny (model prog w) A (call (.builtin "sum") [.ref l]) Q E s := by
  obtain ⟨xs, e⟩ := hi.allInts.items
  have hn : numsOf (intItems xs).toList = ns := by rw [← e]; exact hi.numsOf
  rw [nums_intItems] at hn
  rw [e] at hl
  have lt : l < s.heap.objs.size := by
    obtain ⟨o, ho, _⟩ := id hl
    exact Heap.lt_size ho
  refine call_sum_walkG (wpAny_pyIter_tuple hl ?_)
  refine ⟨_, _, _, _, _, _, numAt xs, rfl, Walks.tuple (A := A.in1) hh s.heap.objs.size l (Nat.ne_of_lt lt) (intItems xs), ⟨⟨_, Heap.get?_push_size _ rfl, rfl, rfl⟩, hl.push _⟩, fun b hb => ?_, (fun _ _ => intItems_at), fun h' tk t' hk => ?_⟩
  · show b < (s.heap.push _).objs.size
    rw [Heap.size_push]
    rcases List.mem_cons.mp hb with rfl | hb
    · exact Nat.lt_succ_self _
    · rw [List.mem_singleton.mp hb]
      exact Nat.lt_succ_of_lt lt
  · have z := h h' tk t' fun b o q => hk b o (fun hb => by
      rw [List.mem_singleton.mp hb] at q
      exact absurd (Heap.lt_size q) (Nat.lt_irrefl _)) (Heap.get?_push_of_some _ q)
    have e2 : preSum (numAt xs) (intItems xs).size = ns.sum := by
      rw [show (intItems xs).size = xs.size by simp [intItems], preSum_eq, List.take_of_length_le (by simp), hn]
    rw [e2]
    exact z
def rSumT (K : PySem.W.Frag) : List V → Hp → VK → Prop := fun vs H Q => ∃ (a : Addr) (ns : List Int), vs = [V.ref a] ∧ SqT K H a (ns.map V.int) ∧ Q (.int ns.sum) H
theorem cr_sumT (hc : X.calm = true) : CallR X (.builtin "sum") (rSumT X.K) := by
  rintro pins s σ H vs us Q I r ⟨a, ns, rfl, hs, q⟩
  obtain ⟨its, rv, hl, _⟩ := I.tuple hs
  rw [Vals.ref1 r]
  exact sum_tup (I.ok.hd hc) hl rv.ints fun h' tk t' hk => ⟨.int _, H, I.kept hk, ⟨_, rfl⟩, q⟩
def dSum : D → Option D
  | .lst xs => (asInts xs).map fun bs => .int bs.sum
  | .tup xs => (asInts xs).map fun bs => .int bs.sum
  | _ => none
theorem cb_sum (hc : X.calm = true) : CallB X (.builtin "sum") dSum := ⟨_, (cr_sum hc).or (cr_sumT hc), fun x z e T wd H v Q g t d => by
  cases x with
  | lst xs =>
    obtain ⟨bs, e1, rfl⟩ := Option.map_eq_some_iff.mp e
    obtain ⟨p, vs, rfl, h1, h2⟩ := top_lst g t
    rw [asInts_eq e1] at h2
    rw [h2.ints] at h1
    exact .inl ⟨_, bs, rfl, .inl (.inl h1), d.now (.int _)⟩
  | tup xs =>
    obtain ⟨bs, e1, rfl⟩ := Option.map_eq_some_iff.mp e
    obtain ⟨p, vs, rfl, h1, _, h2⟩ := top_tup g t
    rw [asInts_eq e1] at h2
    rw [h2.ints] at h1
    exact .inr ⟨_, bs, rfl, h1, d.now (.int _)⟩
  | _ => cases e⟩
def dAbs : List D → Option D
  | [.int i] => some (.int (if i < 0 then -i else i))
  | _ => none
theorem cn_abs : CallN X (.builtin "abs") dAbs := ⟨_, call_abs, fun xs z e T wd H vs Q g r d => by
  unfold dAbs at e
  split at e
  · cases e
    cases r with
    | cons a b =>
      cases a
      cases b
      exact ⟨_, rfl, d.now (.int _)⟩
  · cases e⟩
def dMax2 : List D → Option D
  | [.int i, .int j] => some (.int (if j > i then j else i))
  | _ => none
def dMin2 : List D → Option D
  | [.int i, .int j] => some (.int (if j < i then j else i))
  | _ => none
theorem cn_max2 (hc : X.calm = true) : CallN X (.builtin "max") dMax2 := ⟨_, call_max2 hc, fun xs z e T wd H vs Q g r d => by
  unfold dMax2 at e
  split at e
  · cases e
    cases r with
    | cons a b =>
      cases a
      cases b with
      | cons a b =>
        cases a
        cases b
        exact ⟨_, _, rfl, d.now (.int _)⟩
  · cases e⟩
theorem cn_min2 (hc : X.calm = true) : CallN X (.builtin "min") dMin2 := ⟨_, call_min2 hc, fun xs z e T wd H vs Q g r d => by
  unfold dMin2 at e
  split at e
  · cases e
    cases r with
    | cons a b =>
      cases a
      cases b with
      | cons a b =>
        cases a
        cases b
        exact ⟨_, _, rfl, d.now (.int _)⟩
  · cases e⟩
def dInt : D → Option D
  | .int i => some (.int i)
  | .bl b => some (.int (if b then 1 else 0))
  | _ => none
theorem cb_int : CallB X (.type "int") dInt := ⟨_, call_int1, fun x z e T wd H v Q g t d => by
  cases x with
  | int i =>
    cases e
    cases top_rep t (fun _ z => nomatch z)
    exact .inl ⟨_, rfl, d.now (.int _)⟩
  | bl b =>
    cases e
    cases top_rep t (fun _ z => nomatch z)
    exact .inr ⟨_, rfl, d.now (.int _)⟩
  | _ => cases e⟩
def dTuple : D → Option D
  | .lst xs => some (.tup xs)
  | .tup xs => some (.tup xs)
  | _ => none
theorem cb_tuple : CallB X (.type "tuple") dTuple := ⟨_, call_tuple_of, fun x z e T wd H v Q g t d => by
  cases x with
  | lst xs =>
    cases e
    obtain ⟨p, vs, rfl, h1, h2⟩ := top_lst g t
    exact ⟨_, _, rfl, .inl ⟨.inl (.inl h1), fun l hl => d.tup g hl h2 (g.siz _ _ h1)⟩⟩
  | tup xs =>
    cases e
    obtain ⟨p, vs, rfl, h1, h3, h2⟩ := top_tup g t
    exact ⟨_, _, rfl, .inr ⟨h1, d.now (.tup h3 h2)⟩⟩
  | _ => cases e⟩
def dItems : D → Option (List D)
  | .lst xs => some xs
  | .tup xs => some xs
  | _ => none
theorem cf_list : CallF X (.type "list") dItems := ⟨_, call_list_of, fun x zs e T wd H v Q g t d => by
  cases x with
  | lst xs =>
    cases e
    obtain ⟨p, vs, rfl, h1, h2⟩ := top_lst g t
    exact ⟨_, _, rfl, .inl (.inl (.inl h1)), fun l hl => d l vs hl h2 (g.siz _ _ h1)⟩
  | tup xs =>
    cases e
    obtain ⟨p, vs, rfl, h1, h3, h2⟩ := top_tup g t
    exact ⟨_, _, rfl, .inr h1, fun l hl => d l vs hl h2 (siz_sqT g h3)⟩
  | _ => cases e⟩
def dTy : D → Option String
  | .non => some "NoneType"
  | .bl _ => some "bool"
  | .int _ => some "int"
  | .str _ => some "str"
  | .tup _ => some "tuple"
  | .lst _ => some "list"
  | .dic _ => some "dict"
  | _ => none
def isa (s t : String) : Bool := s == t || (s == "bool" && t == "int")
def dIsi (t : String) : D → Option D := fun x => (dTy x).map fun s => .bl (isa s t)
theorem rep_ty {K : PySem.W.Frag} {wd : Wd} {H : Hp} {v : V} {d : D} {s : String} (g : Good T wd H) (r : Rep K wd v d) (h : dTy d = some s) : TyX K H v (.type s) := by
  cases r <;> cases h
  · exact .base .non
  · exact .base (.bl _)
  · exact .base (.int _)
  · exact .base (.str _)
  · rename_i hs _
    exact .base (.tup (g.sub _ _ hs))
  · exact .base (.lst (g.sub _ _ ‹_›))
  · exact .base (.dK (g.sub _ _ ‹_›))
structure IsT (t : String) : Prop where
  h : ∀ s ∈ ["NoneType", "bool", "int", "str", "tuple", "list", "dict"], kitB s t = some (isa s t)
theorem isT_int : IsT "int" := ⟨by decide +kernel⟩
theorem isT_bool : IsT "bool" := ⟨by decide +kernel⟩
theorem isT_tuple : IsT "tuple" := ⟨by decide +kernel⟩
theorem je_isi {t : String} {y : Str} {e : Expr} {a : W D} {p p2 pos : Pos} (ht : IsT t) (hm : X.mg "isinstance" = none) (hm2 : X.mg y = none) (hv2 : bootBuiltins y = some (.type t)) (ha : JE T X E e a)
    (hg : Gl X "isinstance" := by rfl) (hg2 : Gl X y := by rfl) (hn : y ≠ "__name__" := by decide) (hdb : (y == ("__debug__" : Str)) = false := by decide)
    (hs : starEach [e, .Name y p2] X.env = (false, eval e X.env) :: starEach [.Name y p2] X.env := by rfl) (hs2 : starEach [.Name y p2] X.env = (false, eval (.Name y p2) X.env) :: starEach [] X.env := by rfl) (hpl : (backTo pos (starEach [.Name y p2] X.env)).any (·.1) = false := by rfl) :
    JE T X E (.Call (.Name "isinstance" p) [e, .Name y p2] [] pos) (w1 (dIsi t) a) := by
  refine peI (pe_callB call_isi hg hm (by decide +kernel) (pa_cons ha (pa_cons (pe_bltn (v := .ty t) hg2 hm2 hv2 rfl hn hdb) pa_nil hs2) hs) (by decide) (by decide) hs hpl) fun σ H Q ⟨c, wd, env, P, Ex, rl, h, xo, k⟩ => ?_
  refine ⟨c, wd, env, _, Ex, rl, h, xo, fun x env1 h1 v wd1 H1 le1 r1 rp => ?_⟩
  obtain ⟨z, e1, h2⟩ := opt_inv h1
  obtain ⟨s, e2, rfl⟩ := Option.map_eq_some_iff.mp e1
  refine ⟨v, .ty t, .type s, .type t, isa s t, rfl, .ty t, rep_ty r1.good rp e2, kit_ty (ht.h s ?_), k _ env1 h2 _ wd1 H1 le1 r1 (.bl _)⟩
  cases x <;> cases e2 <;> decide
end
end Pd

namespace Pd
open PySem PySem.Spec PyProof.Rows L2 LamX

mutual
theorem reads_lt {h : Heap} : ∀ {v : Value} {d : PyData} {as : List Addr}, Reads h v d as → ∀ b ∈ as, b < h.objs.size
  | _, _, _, .none => fun b hb => absurd hb (by simp)
  | _, _, _, .bool _ => fun b hb => absurd hb (by simp)
  | _, _, _, .int _ _ => fun b hb => absurd hb (by simp)
  | _, _, _, .str _ _ => fun b hb => absurd hb (by simp)
  | _, _, _, .list h1 _ _ h4 => fun b hb => by
    rcases List.mem_cons.mp hb with rfl | hb
    · exact Heap.lt_size h1
    · exact readsAll_lt h4 b hb
  | _, _, _, .tuple _ _ _ h4 => fun b hb => readsAll_lt h4 b hb
  | _, _, _, .dict h1 _ _ h4 h5 => fun b hb => by
    rcases List.mem_append.mp hb with hb | hb
    · rcases List.mem_cons.mp hb with rfl | hb
      · exact Heap.lt_size h1
      · exact readsAll_lt h4 b hb
    · exact readsAll_lt h5 b hb
theorem readsAll_lt {h : Heap} : ∀ {vs : List Value} {ds : List PyData} {as : List Addr}, ReadsAll h vs ds as → ∀ b ∈ as, b < h.objs.size
  | _, _, _, .nil => fun b hb => absurd hb (by simp)
  | _, _, _, .cons h1 h2 => fun b hb => (List.mem_append.mp hb).elim (reads_lt h1 b) (readsAll_lt h2 b)
end
section
variable {prog : Program} {w : World} {A : Around} {E : Value → Shared → Prop} {s : Shared}
theorem sorted_after {T : String} (hT : T = "list" ∨ T = "tuple") {a : Addr} {o : Obj} {vs : List Value} {n : Nat} {kw : List (Str × Value)} {Q : Value → Shared → Prop} (ho : s.heap.get? a = some o) (hc : o.cls = .type T) (hd : o.data = .seq vs.toArray n) (hz : vs.length ≤ sizeLine)
    (ha : argsOk "sorted" ⟨[.ref a], kw⟩)
    (h : ∀ h1 : Heap, (∀ b u, s.heap.get? b = some u → h1.get? b = some u) →
      wpAny (model prog w) A.in1 (call (.builtin "list.sort") [.ref h1.objs.size] kw) (fun _ s' => Q (.ref h1.objs.size) s') E { s with heap := h1.push (seqObj "list" vs.toArray 0) }) :
    wpAny (model prog w) A (call (.builtin "sorted") [.ref a] kw) Q E s := by
  refine call_function_entry_kw kind_sorted plain_sorted entry_sorted ha ?_
  unfold Builtin.«sorted»
  refine wpAny_bind (m := checkCount "sorted" 1 1 _) (wpAny_pure ?_)
  refine wpAny_bind (wpAny_collect_seq a hT ho hc hd (fun h1 k1 => ?_) (by simpa using hz))
  refine wpAny_bind (wpAny_newList ?_ (by simpa using hz))
  have g := h h1 k1
  refine wpAny_bind (wpAny_holding (wpAny_mono ?_ (fun _ s' x => wpAny_pure ⟨_, rfl, x⟩) fun _ _ e => e))
  simpa using g
end
section
variable {X : Cx} {pins : List (Addr × Obj)} {σ : L2.St} {H : Hp} {s : Shared}
theorem each_of {K : PySem.W.Frag} {wd : Wd} : ∀ {vs : List V} {its : List Value} {xs : List D}, Reps K wd vs xs → Vals vs its → PySem.W.EachIs (fun u d => ∃ v, RelV v u ∧ Rep K wd v d) its xs
  | _, _, _, .nil, .nil => .nil
  | _, _, _, .cons a b, .cons r t => .cons ⟨_, r, a⟩ (each_of b t)
theorem of_each {K : PySem.W.Frag} {wd : Wd} : ∀ {its : List Value} {xs : List D}, PySem.W.EachIs (fun u d => ∃ v, RelV v u ∧ Rep K wd v d) its xs → ∃ vs, Vals vs its ∧ Reps K wd vs xs
  | _, _, .nil => ⟨[], .nil, .nil⟩
  | _, _, .cons ⟨v, r, a⟩ t => by
    obtain ⟨vs, h1, h2⟩ := of_each t
    exact ⟨v :: vs, .cons r h1, .cons a h2⟩
theorem each_reads {T : List (Addr × Str)} {wd : Wd} {p : Addr} (g : Good T wd H) (I : Inv X pins σ H s) (hp : s.heap.objs.size ≤ p) {h2 : Heap} (kk : ∀ b u, s.heap.get? b = some u → h2.get? b = some u) (n : Nat) : ∀ {vs : List V} {its : List Value} {xs : List D}, xs.all (plain n) = true → Reps X.K wd vs xs → Vals vs its →
    PySem.W.EachIs (fun v b => ∃ as, Reads h2 v (toPy b) as ∧ p ∉ as) its xs
  | _, _, _, _, .nil, .nil => .nil
  | _, _, _, h, .cons a b, .cons r t => by
    rw [List.all_cons, Bool.and_eq_true] at h
    obtain ⟨as, ra⟩ := Dp.reads I _ _ _ (rep_dp g n h.1 a) r
    refine .cons ⟨as, PyProof.Rows.Reads.keeps kk ra, fun hm => ?_⟩ (each_reads g I hp kk n h.2 b t)
    exact absurd (Nat.lt_of_lt_of_le (reads_lt ra p hm) hp) (Nat.lt_irrefl _)
structure Srt (xs : List D) : Prop where
  pl : xs.all (plain 50) = true
  al : PySem.W.AllAlike (xs.map toPy)
  so : PySem.W.Sortable (xs.map toPy)
abbrev leD (b : Bool) : D → D → Bool := PySem.W.dataLe b toPy
theorem sort_run {T : List (Addr × Str)} {wd : Wd} {b : Bool} {xs : List D} {vs : List V} {its : List Value} {h1 : Heap} {Q : VK} {kw : List (Str × Value)} (hk : (b = false ∧ kw = []) ∨ kw = [(Str.ofString "reverse", .bool b)]) (g : Good T wd H) (I : Inv X pins σ H { s with heap := h1 }) (rs : Reps X.K wd vs xs) (rv : Vals vs its) (hz : vs.length ≤ sizeLine) (hu : X.A.units + 200 < cLine) (S : Srt xs)
    (q : DelF X.K wd H (xs.mergeSort (leD b)) Q) : wpAny (model X.prog X.w) X.A.in1 (call (.builtin "list.sort") [.ref h1.objs.size] kw) (fun _ s' => EP X pins σ Q (.ref h1.objs.size) s') X.xe { s with heap := h1.push (seqObj "list" its.toArray 0) } := by
  have ho : (h1.push (seqObj "list" its.toArray 0)).get? h1.objs.size = some (seqObj "list" its.toArray 0) := Heap.get?_push_size _ rfl
  have kk : ∀ c u, h1.get? c = some u → (h1.push (seqObj "list" its.toArray 0)).get? c = some u := fun c u z => Heap.get?_push_of_some _ z
  have er := each_reads (s := { s with heap := h1 }) (p := h1.objs.size) g I (Nat.le_refl _) kk 50 S.pl rs rv
  have e := each_of rs rv
  have hL : xs.length ≤ sizeLine := by rw [← rs.length]; exact hz
  have dep : ∀ d ∈ xs, X.A.in1.units + 1 + (toPy d).depth < cLine := fun d hd => by
    have := (plain_lay 50 d (List.all_eq_true.mp S.pl d hd)).2
    show X.A.units + 1 + 1 + (toPy d).depth < cLine
    omega
  have fin : ∀ out : List Value, out.length = xs.length → PySem.W.EachIs (fun u d => ∃ v, RelV v u ∧ Rep X.K wd v d) out (xs.mergeSort (leD b)) →
      EP X pins σ Q (.ref h1.objs.size) { s with heap := sortedHeap (h1.push (seqObj "list" its.toArray 0)) h1.objs.size its (List.toArray out) } := fun out hl eo => by
    obtain ⟨us, u1, u2⟩ := of_each eo
    obtain ⟨ep, he⟩ := sortedHeap_at (out := out.toArray) ho
    have hzu : us.length ≤ sizeLine := by
      rw [u1.length, hl]
      exact hL
    refine ⟨.ref h1.objs.size, upd H h1.objs.size (.lst us), I.laid (t' := s.toks) (fun c u z => ?_) (Nat.le_refl _) ⟨hzu, out, ep, u1, he⟩, rfl, q _ us (I.hok.fresh (Nat.le_refl _)) u2 hzu⟩
    have zl : c < h1.objs.size := Heap.lt_size z
    rw [sortedHeap_old (Nat.ne_of_lt zl) (by rw [Heap.size_push]; exact Nat.lt_succ_of_lt zl)]
    exact kk c u z
  rcases hk with ⟨rfl, rfl⟩ | rfl
  · exact PySem.W.list_sort_data (s := { s with heap := h1.push (seqObj "list" its.toArray 0) }) (enc := toPy) ho e er S.al S.so hL dep fin
  · exact PySem.W.list_sort_rev_data (s := { s with heap := h1.push (seqObj "list" its.toArray 0) }) (enc := toPy) ho e er S.al S.so hL dep fin
def rSrt (K : PySem.W.Frag) (b : Bool) (v : V) (H : Hp) (Q : VK) : Prop := ∃ (T : List (Addr × Str)) (wd : Wd) (x : D) (xs : List D), Good T wd H ∧ Top K wd H v x ∧ dItems x = some xs ∧ Srt xs ∧ DelF K wd H (xs.mergeSort (leD b)) Q
theorem sorted_ok {b : Bool} {v : V} {u : Value} {Q : VK} {kw : List (Str × Value)} (hk : (b = false ∧ kw = []) ∨ kw = [(Str.ofString "reverse", .bool b)]) (hu : X.A.units + 200 < cLine) (I : Inv X pins σ H s) (r : RelV v u) (h : rSrt X.K b v H Q) :
    wpAny (model X.prog X.w) X.A (call (.builtin "sorted") [u] kw) (EP X pins σ Q) X.xe s := by
  obtain ⟨T, wd, x, xs, g, t, ei, S, q⟩ := h
  have args : ∀ a : Value, argsOk "sorted" ⟨[a], kw⟩ := fun a => by
    rcases hk with ⟨_, rfl⟩ | rfl
    · exact args_sorted1 a
    · exact args_sorted_rev a _
  cases x with
  | lst ys =>
    cases ei
    obtain ⟨p, vs, rfl, h1, h2⟩ := top_lst g t
    cases r
    obtain ⟨hz, its, n, rv, ho⟩ := I.hok p _ h1
    exact sorted_after (.inl rfl) ho rfl rfl (by rw [← rv.length]; exact hz) (args _) fun hh kk => sort_run hk g (I.kept (t' := s.toks) kk) h2 rv hz hu S q
  | tup ys =>
    cases ei
    obtain ⟨p, vs, rfl, h1, h3, h2⟩ := top_tup g t
    cases r
    obtain ⟨its, rv, ⟨o, ho, hc, n, hd⟩, hz⟩ := I.tuple h1
    have hz2 : vs.length ≤ sizeLine := siz_sqT g h3
    exact sorted_after (.inr rfl) ho hc hd (by rw [← rv.length]; exact hz2) (args _) fun hh kk => sort_run hk g (I.kept (t' := s.toks) kk) h2 rv hz2 hu S q
  | _ => cases ei
end
section
variable {X : Cx} {T : List (Addr × Str)} {E : XK} {k : Nat}
def wSort (b : Bool) (a : W D) : W (List D) := a.bind fun x env Q _ => ∃ xs, dItems x = some xs ∧ Srt xs ∧ Q (xs.mergeSort (leD b)) env
theorem cr_srt (hu : X.A.units + 200 < cLine) : CallR X (.builtin "sorted") (fun vs H Q => ∃ v, vs = [v] ∧ rSrt X.K false v H Q) := by
  rintro pins s σ H vs us Q I r ⟨v, rfl, h⟩
  obtain ⟨u, rfl, ru⟩ := vals1 r
  exact sorted_ok (.inl ⟨rfl, rfl⟩) hu I ru h
theorem jf_sorted {e : Expr} {a : W D} {p pos : Pos} (B : Bd X E k) (hm : X.mg "sorted" = none) (ha : JB T X E e a) (hg : Gl X "sorted" := by rfl)
    (hs : starEach [e] X.env = (false, eval e X.env) :: starEach [] X.env := by rfl) (hpl : (backTo pos (starEach [] X.env)).any (·.1) = false := by rfl) : JF T X E (.Call (.Name "sorted" p) [e] [] pos) (wSort false a) := by
  have hu : X.A.units + 200 < cLine := by have := B.room.un; omega
  refine peI (pe_callB (cr_srt hu) hg hm (by decide +kernel) (pa_cons ha pa_nil hs) (by decide) (by decide) hs hpl) fun σ H Q ⟨c, wd, env, P, Ex, rl, h, xo, kk⟩ => ?_
  refine ⟨c, wd, env, _, Ex, rl, h, xo, fun x env1 ⟨xs, e1, S, h1⟩ v wd1 H1 le1 r1 tp => ⟨v, rfl, T, wd1, x, xs, r1.good, tp, e1, S, fun p us hp ru hz => ?_⟩⟩
  obtain ⟨r2, f⟩ := r1.fresh hp ru hz
  exact kk _ env1 h1 _ wd1 _ le1 r2 f
end
end Pd

namespace Pd
open PySem PySem.Spec PyProof.Rows L2 LamX

section
variable {X : Cx} {T : List (Addr × Str)} {E : XK} {k : Nat}
def ownIs (env : PEnv) (i : Nat) (P : List D → Prop) : Prop := match gt env i with
  | some (.own xs) => P xs
  | _ => False
theorem ownIs_inv {env : PEnv} {i : Nat} {P : List D → Prop} (h : ownIs env i P) : ∃ xs, gt env i = some (.own xs) ∧ P xs := by
  unfold ownIs at h
  split at h
  · exact ⟨_, by assumption, h⟩
  · exact h.elim
def wAppend (i : Nat) (e : W D) : W D := fun env Q ex => ownIs env i fun _ => e env (fun y env1 => ownIs env1 i fun xs => xs.length < 1000000 ∧ Q .non (env1.set i (some (.own (xs ++ [y]))))) ex
section
variable {x : Str} {e : Expr} {p apos pos : Pos}
theorem je_append (i : Nat) {w : W D} (he : JE T X E e w) (hN : X.N[i]? = some x := by rfl) (hv : Vis X.env.scope x := by first | exact Or.inl rfl | exact Or.inr (Or.inl rfl) | exact Or.inr (Or.inr rfl)) (hd : (x == ("__debug__" : Str)) = false := by decide)
    (hcd : (x == ("__classdict__" : Str)) = false := by decide) (hbase : attributeBase (.Name x p) "append" X.env (eval (.Name x p) X.env) = eval (.Name x p) X.env := by rfl)
    (hfew : ((backTo pos (starEach [e] X.env)).all (fun x => !x.1) && (backToKw pos (keywordEach [] X.env)).all (fun x => x.1.isSome) && decide ([e].length + ([] : List Keyword).length + (if ([] : List Keyword).isEmpty then 0 else 1) < 30)) = true := by rfl)
    (hline : (apos.endLine == pos.line) = true := by rfl) (hs : starEach [e] X.env = (false, eval e X.env) :: starEach [] X.env := by rfl) (hpl : (backTo pos (starEach [] X.env)).any (·.1) = false := by rfl) : JE T X E (.Call (.Attribute (.Name x p) "append" apos) [e] [] pos) (wAppend i w) :=
  peI (pe_bm F.plainAttrs_list F.slot_list_append F.type_list_append mt_append (pe_var hN hv hd hcd) (pa_cons he pa_nil hs) hbase hfew hline hs hpl) fun σ H Q ⟨c, wd, env, P, Ex, rl, h, xo, kk⟩ => by
    obtain ⟨xs0, e0, h⟩ := ownIs_inv h
    obtain ⟨p0, vs0, z0, zh, _⟩ := rl.own i xs0 (gt_eq _ _ e0)
    refine ⟨.ref p0, z0, .inl ⟨rfl, vs0, .inl (.inl zh)⟩, c, wd, env, _, Ex, rl, h, xo, fun y env1 h1 u wd1 H1 le1 r1 rp1 => ?_⟩
    obtain ⟨xs, e1, hl, h1⟩ := ownIs_inv h1
    obtain ⟨p1, vs, z1, z2, z3, z4, z5, z6⟩ := r1.own i xs (gt_eq _ _ e1)
    rw [z0] at z1
    cases z1
    have hz : (vs ++ [u]).length ≤ sizeLine := by
      rw [List.length_append, z6.length]
      exact sz6 (Nat.succ_le_of_lt hl)
    refine ⟨_, vs, u, rfl, rfl, z2, ?_, kk _ _ h1 .non wd1 _ le1 (r1.mut (gt_eq _ _ e1) z0 (z6.append (.cons rp1 .nil)) hz) .non⟩
    rw [List.length_append] at hz
    exact hz
end
def sSetIx (i : Nat) (iw ew : W D) : WS := fun pe env => ew env (fun v env1 => ownIs env1 i fun _ => iw env1 (fun n env2 => ownIs env2 i fun xs => match n with
  | .int n => ∃ j, ixN xs.length n = some j ∧ pe.nx (env2.set i (some (.own (xs.set j v))))
  | _ => False) pe.ex) pe.ex
theorem js_setIx (i : Nat) {x : Str} {y e : Expr} {iw ew : W D} {p1 p2 pos : Pos} (hi : JE T X E y iw) (he : JE T X E e ew) (hN : X.N[i]? = some x := by rfl) (hv : Vis X.env.scope x := by first | exact Or.inl rfl | exact Or.inr (Or.inl rfl) | exact Or.inr (Or.inr rfl)) (hd : (x == ("__debug__" : Str)) = false := by decide)
    (hcd : (x == ("__classdict__" : Str)) = false := by decide) (hs : swapsWithSole [.Subscript (.Name x p1) y p2] e pos.line X.env = pure false := by rfl) (hw : swappedStores [.Subscript (.Name x p1) y p2] e X.env = pure none := by rfl)
    (h1 : (assignEach [.Subscript (.Name x p1) y p2] X.env).map (·.2) = [assign (.Subscript (.Name x p1) y p2) X.env] := by rfl)
    (hasg : ∀ v, assign (.Subscript (.Name x p1) y p2) X.env v = (do
      let ov ← holding [v] (eval (.Name x p1) X.env)
      let iv ← holding [v, ov] (eval y X.env)
      standAt p2
      holding [v, ov, iv] (setItem ov iv v)
      release [v, ov, iv] []) := by intro _; rfl) : JS T X E (.Assign [.Subscript (.Name x p1) y p2] e pos) (sSetIx i iw ew) :=
  psI (ps_asg he (pg_sub (pe_var hN hv hd hcd) hi set_list hasg) hs hw h1) fun D σ H ⟨c, wd, env, pe, rl, h, o⟩ => by
    refine ⟨c, wd, env, _, _, rl, h, o.ex, fun v env1 h1 u wd1 H1 le1 r1 rp1 => ?_⟩
    obtain ⟨xs0, e0, h1⟩ := ownIs_inv h1
    obtain ⟨p0, vs0, z0, zh, _⟩ := r1.own i xs0 (gt_eq _ _ e0)
    refine ⟨.ref p0, z0, c, wd1, env1, _, _, r1, h1, o.ex, fun n env2 h2 w wd2 H2 le2 r2 rp2 => ?_⟩
    obtain ⟨xs, e1, h3⟩ := ownIs_inv h2
    clear h2
    have h2 := h3
    clear h3
    obtain ⟨p1, vs, z1, z2, z3, z4, z5, z6⟩ := r2.own i xs (gt_eq _ _ e1)
    rw [z0] at z1
    cases z1
    split at h2
    · rename_i n
      cases rp2
      obtain ⟨j, ej, h2⟩ := h2
      refine ⟨_, vs, n, j, rfl, rfl, z2, by rw [z6.length]; exact ej, o.nx _ h2 _ wd2 _ (le1.trans le2) (r2.mut (gt_eq _ _ e1) z0 (z6.set j (Rep.mono le2 rp1)) ?_)⟩
      rw [List.length_set]
      exact r2.good.siz _ _ z2
    · exact h2.elim
def wStar (a : W D) (r : W (List D)) : W (List D) := a.bind fun x env Q ex => match dItems x with
  | some xs => r env (fun ys env' => Q (xs ++ ys) env') ex
  | none => False
theorem ja_star {e : Expr} {es : List Expr} {a : W D} {w : W (List D)} {p : Pos} (ha : JB T X E e a) (hr : JA T X E es w) (hs : starEach (.Starred e p :: es) X.env = (true, eval e X.env) :: starEach es X.env := by rfl) : JA T X E (.Starred e p :: es) (wStar a w) :=
  paI (StX.pa_star ha hr hs) fun σ H Q ⟨c, wd, env, P, Ex, r, h, xo, k⟩ =>
    ⟨c, wd, env, _, Ex, r, h, xo, fun x env1 h1 v wd1 H1 le1 r1 tp => by
      dsimp only at h1
      split at h1
      · rename_i xs ex
        cases x with
        | lst ys =>
          cases ex
          obtain ⟨p, vs, rfl, q1, q2⟩ := top_lst r1.good tp
          exact ⟨p, vs, rfl, .inr (.inl (.inl q1)), c, wd1, env1, _, Ex, r1, h1, xo, fun ys env2 h2 us wd2 H2 le2 r2 rp2 => k _ env2 h2 _ wd2 H2 (le1.trans le2) r2 ((q2.mono le2).append rp2)⟩
        | tup ys =>
          cases ex
          obtain ⟨p, vs, rfl, q1, _, q2⟩ := top_tup r1.good tp
          exact ⟨p, vs, rfl, .inl q1, c, wd1, env1, _, Ex, r1, h1, xo, fun ys env2 h2 us wd2 H2 le2 r2 rp2 => k _ env2 h2 _ wd2 H2 (le1.trans le2) r2 ((q2.mono le2).append rp2)⟩
        | _ => cases ex
      · exact h1.elim⟩
end
end Pd

namespace Pd
open PySem PySem.Spec PyProof.Rows L2 LamX

theorem en_new {v : Value} {o : Obj} {G : Heap → Prop} (B : Begins v o G) :
    Meets (Builtin.«enumerate.__new__» ⟨[.type "enumerate", v], []⟩) (fun _ R s => G s.heap ∧
      R (.ok (.ret (.ref (s.heap.push o).objs.size))) { s with heap := (s.heap.push o).push { cls := .type "enumerate", data := .fields #[.none, .bool false, .ref s.heap.objs.size, rawInt 0, .none, .none] } }) :=
  .of_wp fun prog w A R s hh => by
    obtain ⟨hp, gs, dr, tk, os⟩ := s
    obtain ⟨h1, h⟩ := hh
    have hsub := sub_enumerate
    have go : ∀ {A' : Around} {E : Value → Shared → Prop} {Q : Value → Shared → Prop}, Q (.ref hp.objs.size) ⟨hp.push o, gs, dr, tk, os⟩ → wpAny (model prog w) A' (pyIter v) Q E ⟨hp, gs, dr, tk, os⟩ :=
      fun q => B.iter prog w _ _ ⟨hp, gs, dr, tk, os⟩ _ h1 q
    wp_walk using go
    refine wpAny_stack_any fun stk => wpAny_pure ?_
    split
    · rename_i c _ _ _ _ _
      cases (c == Value.type "enumerate")
      all_goals
        wp_walk using go
        exact ⟨_, rfl, h⟩
    · wp_walk using go
      exact ⟨_, rfl, h⟩
theorem en_call {prog : Program} {w : World} {A : Around} {E : Value → Shared → Prop} {s : Shared} {v : Value} {o : Obj} {G : Heap → Prop} {Q : Value → Shared → Prop} (B : Begins v o G) (h1 : G s.heap)
    (h : ∀ h', IsEnum h' (s.heap.objs.size + 1) s.heap.objs.size 0 .none → h'.get? s.heap.objs.size = some o → (∀ b u, s.heap.get? b = some u → h'.get? b = some u) → Q (.ref (s.heap.objs.size + 1)) { s with heap := h' }) :
    wpAny (model prog w) A (call (.type "enumerate") [v]) Q E s := by
  refine callType_new F.called_enumerate (by decide) (F.typeCall_enumerate_1 _) (F.newCall_enumerate_1 _) (fun obj => F.args_object_init_2 obj _) F.entry_enumerate_new (en_new B) ⟨h1, ?_⟩
  have sz : (s.heap.push o).objs.size = s.heap.objs.size + 1 := Heap.size_push ..
  show _ ∧ _
  rw [sz]
  have he : IsEnum ((s.heap.push o).push { cls := .type "enumerate", data := .fields #[.none, .bool false, .ref s.heap.objs.size, rawInt 0, .none, .none] }) (s.heap.objs.size + 1) s.heap.objs.size 0 .none := by
    have q := Heap.get?_push_size (s.heap.push o) (o := { cls := .type "enumerate", data := .fields #[.none, .bool false, .ref s.heap.objs.size, rawInt 0, .none, .none] }) rfl
    rw [sz] at q
    exact q
  exact ⟨⟨_, he, rfl⟩, h _ he (Heap.get?_push_of_some _ (Heap.get?_push_size _ B.free)) fun b u x => Heap.get?_push_of_some _ (Heap.get?_push_of_some _ x)⟩
def ItT (K : PySem.W.Frag) (a : Addr) : It :=
  ⟨fun i H => ∃ (xs : List V) (x : V), SqT K H a xs ∧ xs[i]? = some x, fun i H v H' => ∃ p x, v = .ref p ∧ H p = none ∧ H' = upd H p (.tup [.int (i : Nat), x]) ∧ ∀ xs, SqT K H a xs → xs[i]? = some x, fun i H => ∃ xs : List V, SqT K H a xs ∧ xs.length = i⟩
structure EnT (a e t : Addr) (i : Nat) (h : Heap) : Prop where
  num : ∃ old, IsEnum h e t (i : Int) old
  itr : h.IsTupleIter t a i
  et : e ≠ t
  at_ : a ≠ t
  ea : e ≠ a
theorem two_of {e t b : Addr} (h : b ∈ [e, t]) : b = e ∨ b = t := by simpa using h
theorem EnT.lt {a e t : Addr} {i : Nat} {h : Heap} (z : EnT a e t i h) : ∀ b ∈ [e, t], b < h.objs.size := by
  obtain ⟨_, n⟩ := z.num
  obtain ⟨_, m, _⟩ := z.itr
  intro b hb
  rcases two_of hb with rfl | rfl
  · exact Heap.lt_size n
  · exact Heap.lt_size m
theorem EnT.goes {X : Cx} {pins : List (Addr × Obj)} {σ : L2.St} {H : Hp} {s : Shared} {a e t : Addr} {i tk : Nat} {x : V} {u : Value} {h1 h2 : Heap} {xs : List V} (z : EnT a e t i s.heap) (I : Inv X pins σ H s) (free : ∀ b ∈ [e, t], FpOk X pins H b) (hq : SqT X.K H a xs) (hx : xs[i]? = some x) (ru : RelV x u)
    (pair : h1.get? s.heap.objs.size = some { cls := .type "tuple", data := .seq #[.int i tk, u] }) (old : ∀ b o, b ≠ e → b ≠ t → s.heap.get? b = some o → h1.get? b = some o) (next : h1.IsTupleIter t a (i + 1)) (num : IsEnum h2 e t ((i : Int) + 1) u) (but : Heap.SameBut e h1 h2) :
    ∃ y H', Inv X pins σ H' { s with heap := h2, toks := tk + 1 } ∧ RelV y (.ref s.heap.objs.size) ∧ (ItT X.K a).yld i H y H' ∧ EnT a e t (i + 1) h2 ∧ ∀ b ∈ [e, t], H' b = none := by
  have room : H s.heap.objs.size = none := I.hok.fresh (Nat.le_refl _)
  have low := z.lt
  have there : h2.get? s.heap.objs.size = some { cls := .type "tuple", data := .seq #[.int i tk, u] } := by
    rw [but.2 _ (Nat.ne_of_gt (low e (by simp)))]
    exact pair
  have obj : ObjOk X.prog X.w (upd H s.heap.objs.size (.tup [.int i, x])) h2 s.heap.objs.size (.tup [.int i, x]) := ⟨show 2 ≤ sizeLine by decide, _, .cons ⟨tk, rfl⟩ (.cons ru .nil), _, there, rfl, _, rfl⟩
  have kept : ∀ b o, b ∉ [e, t] → s.heap.get? b = some o → h2.get? b = some o := fun b o nb g => by
    have n1 : b ≠ e := fun y => nb (by simp [y])
    rw [but.2 b n1]
    exact old b o n1 (fun y => nb (by simp [y])) g
  refine ⟨.ref s.heap.objs.size, _, I.turnedNew kept free (Nat.le_refl _) obj, rfl, ⟨_, x, rfl, room, rfl, fun ys hy => ?_⟩, ?_, fun b hb => ?_⟩
  · rw [I.tuple_inj hy hq]
    exact hx
  · refine ⟨⟨u, ?_⟩, next.at fun o g => ?_, z.et, z.at_, z.ea⟩
    · rw [Int.natCast_succ]
      exact num
    · rw [but.2 t z.et.symm]
      exact g
  · rw [upd_ne (Nat.ne_of_lt (low b hb))]
    exact (free b hb).1
theorem turn_enT {P : Program} {w : World} {K : PySem.W.Frag} {elts : List Expr} {kk : Nat} {tpos : Pos} (a e t : Addr) : Turn P w K (.Tuple elts kk tpos) (ItT K a) [e, t] e (EnT a e t) where
  mem := List.mem_cons_self
  obj i h z b hb := by
    obtain ⟨old, n⟩ := z.num
    obtain ⟨o, m, _, dt⟩ := z.itr
    rcases two_of hb with rfl | rfl
    · exact ⟨_, n, by simp⟩
    · exact ⟨o, m, by simp [dt]⟩
  keep i h h' z k := by
    obtain ⟨old, n⟩ := z.num
    exact ⟨⟨old, k e (by simp) _ n⟩, z.itr.at (k t (by simp)), z.et, z.at_, z.ea⟩
  item := by
    rintro X rfl rfl rfl calm i pins s σ H E I free z ⟨xs, x, hq, hx⟩
    obtain ⟨its, rv, tup, _⟩ := I.tuple hq
    obtain ⟨u, hu, ru⟩ := rv.get hx
    obtain ⟨old, n⟩ := z.num
    have quiet : X.A.in1.handled = none := I.ok.hd calm
    have far : e ∉ [t, a] := by simp [z.et, z.ea]
    have more : i < its.toArray.size := by simpa using (List.getElem?_eq_some_iff.mp hu).1
    refine wpAny_pyNext_enum_itemD (Draws.tuple quiet t a z.at_ its.toArray) n ⟨z.itr, tup⟩ more z.et far fun v h1 tk hv out st pair _ keeps => ?_
    obtain rfl : v = u := by
      rw [← Array.getElem?_toList] at hv
      exact Option.some.inj (hv.symm.trans hu)
    exact ⟨_, rfl, wpAny_letOwnedTupleGo_enum (s := { s with heap := h1, toks := tk + 1 }) out fun h2 num but => z.goes I free hq hx ru pair keeps st.1 num but⟩
  done := by
    rintro X rfl rfl rfl calm i pins s σ H E I free z ⟨xs, hq, rfl⟩
    obtain ⟨its, rv, tup, _⟩ := I.tuple hq
    obtain ⟨old, n⟩ := z.num
    have quiet : X.A.in1.handled = none := I.ok.hd calm
    have all : its.toArray.size = xs.length := by simp [rv.length]
    obtain ⟨g0, g1, _, g3, g4, g5⟩ := free t (by simp)
    exact wpAny_pyNext_enum_endD (Draws.tuple quiet t a z.at_ its.toArray) n ⟨all ▸ z.itr, tup⟩ fun h1 but => ⟨rfl, I.turned (t' := s.toks) but g0 g1 g3 g4 g5⟩
  self A i s Q E z h := by
    obtain ⟨_, n⟩ := z.num
    exact wpAny_pyIter_enum n h
def iEnT (K : PySem.W.Frag) (ta : TA) : TI := fun σ H R => ta σ H fun vs H1 => ∃ a xs, vs = [.ref a] ∧ ((SqL K H1 a xs ∧ R (Ite K a) H1) ∨ (SqT K H1 a xs ∧ R (ItT K a) H1))
theorem pi_enT {X : Cx} {e : Expr} {ta : TA} {p pos tpos : Pos} {elts : List Expr} {kk : Nat} (hg : Gl X "enumerate") (hm : X.mg "enumerate" = none) (ha : PA X [e] ta) (hs : starEach [e] X.env = [(false, eval e X.env)] := by rfl) :
    PI X (.Tuple elts kk tpos) (.Call (.Name "enumerate" p) [e] [] pos) (iEnT X.K ta) := by
  constructor
  intro pins s σ H R I h
  refine Call_ ?_
  apply ld_blt I hg hm boot_enumerate
  apply PyProof.Rows.callWith_type1 _ hs rfl
  apply thn (ha.run pos pins s σ H _ I h)
  rintro us s1 ⟨_, H1, I1, r1, a, xs, rfl, q⟩
  obtain ⟨rfl⟩ : us = [.ref a] := Vals.ref1 r1
  have top : ∀ b ∈ [s1.heap.objs.size + 1, s1.heap.objs.size], FpOk X pins H1 b := fun b hb => by
    have le : s1.heap.objs.size ≤ b := by
      rcases two_of hb with rfl | rfl
      · exact Nat.le_succ _
      · exact Nat.le_refl _
    exact I1.fpOk le (I1.hok.fresh le)
  rcases q with ⟨hq, q⟩ | ⟨hq, q⟩
  · obtain ⟨its, _, lst, _⟩ := I1.list hq
    apply en_call (begins_list a its.toArray) lst.isList
    intro h1 num new keeps
    apply wpAny_pyIter_enum num
    exact ⟨_, _, _, _, H1, rfl, I1.kept (t' := s1.toks) keeps, turn_enum a _ _, ⟨⟨.none, num⟩, ⟨_, new, rfl, rfl⟩, Nat.succ_ne_self _⟩, top, q⟩
  · obtain ⟨its, _, tup, _⟩ := I1.tuple hq
    have low : a < s1.heap.objs.size := by
      obtain ⟨_, g, _⟩ := tup
      exact Heap.lt_size g
    apply en_call (begins_tuple a its.toArray) tup
    intro h1 num new keeps
    apply wpAny_pyIter_enum num
    exact ⟨_, _, _, _, H1, rfl, I1.kept (t' := s1.toks) keeps, turn_enT a _ _, ⟨⟨.none, num⟩, ⟨_, new, rfl, rfl⟩, Nat.succ_ne_self _, Nat.ne_of_lt low, Nat.ne_of_gt (Nat.lt_succ_of_lt low)⟩, top, q⟩
section
variable {X : Cx} {T : List (Addr × Str)} {E : XK} {k : Nat}
def enD (n : Nat) : List D → List D
  | [] => []
  | x :: xs => .tup [.int n, x] :: enD (n + 1) xs
theorem enD_len : ∀ (n : Nat) (xs : List D), (enD n xs).length = xs.length
  | _, [] => rfl
  | n, _ :: xs => congrArg (· + 1) (enD_len (n + 1) xs)
theorem enD_get : ∀ (n i : Nat) (xs : List D) (x : D), xs[i]? = some x → (enD n xs)[i]? = some (.tup [.int (n + i : Nat), x])
  | _, _, [], _, h => by simp at h
  | n, 0, y :: xs, x, h => by
    simp at h
    subst h
    rfl
  | n, i + 1, y :: xs, x, h => by
    have := enD_get (n + 1) i xs x (by simpa using h)
    rw [Nat.add_assoc, Nat.add_comm 1 i] at this
    simpa [enD] using this
def wEnum (a : W D) : W (List D) := a.bind fun x env Q _ => match dItems x with
  | some xs => Q (enD 0 xs) env
  | none => False
theorem yd_en {K : PySem.W.Frag} {wd : Wd} {xs : List D} {us : List V} {i : Nat} {H H' : Hp} {x v : V} {p : Addr} (ru : Reps K wd us xs) (ev : v = .ref p) (hp : H p = none) (eH : H' = upd H p (.tup [.int (i : Nat), x])) (e1 : us[i]? = some x) :
    ∃ d, (enD 0 xs)[i]? = some d ∧ YD K wd d H v H' := by
  obtain ⟨d1, f1, r1⟩ := ru.getV e1
  have := enD_get 0 i xs d1 f1
  rw [Nat.zero_add] at this
  exact ⟨_, this, .inr (.inl ⟨p, [.int (i : Nat), x], [.int (i : Nat), d1], ev, hp, eH, rfl, .cons (.int _) (.cons r1 .nil), by show 2 ≤ sizeLine; decide⟩)⟩
theorem ji_enum {e : Expr} {w : W D} {p pos tpos : Pos} {elts : List Expr} {kk : Nat} (hg : Gl X "enumerate") (hm : X.mg "enumerate" = none) (he : JE T X E e w) (hs : starEach [e] X.env = [(false, eval e X.env)] := by rfl) (hs2 : starEach [e] X.env = (false, eval e X.env) :: starEach [] X.env := by rfl) :
    JI T X E (.Tuple elts kk tpos) (.Call (.Name "enumerate" p) [e] [] pos) (wEnum w) :=
  piI (pi_enT hg hm (pa_cons he pa_nil hs2) hs) fun σ H R ⟨c, wd, env, P, Ex, r, h, xo, kk⟩ => ⟨c, wd, env, _, Ex, r, h, xo, fun x env1 h1 v wd1 H1 le1 r1 rp1 => by
    dsimp only at h1
    split at h1
    · rename_i xs ex
      cases x with
      | lst ys =>
        cases ex
        cases rp1 with
        | lst hs1 rs1 =>
          have q1 := sub_sqL (K := X.K) r1.good hs1
          refine ⟨_, _, rfl, .inl ⟨q1, kk _ env1 h1 _ wd1 H1 le1 r1 ?_ (by rw [enD_len, ← rs1.length]; exact (r1.good.ntb _ _ hs1).2)⟩⟩
          unfold WalkD
          rw [enD_len, ← rs1.length]
          refine ⟨fun i H hi z => ⟨_, _, .inl (.inl (z _ _ hs1)), List.getElem?_eq_getElem hi⟩, fun H z => ⟨_, .inl (.inl (z _ _ hs1)), Nat.le_refl _⟩, fun i H x H' hi z y => ?_⟩
          obtain ⟨p, a, e1, e2, e3, e4⟩ := y
          exact yd_en rs1 e1 e2 e3 (e4 _ (.inl (.inl (z _ _ hs1))))
      | tup ys =>
        cases ex
        cases rp1 with
        | tup hs1 rs1 =>
          have q1 := sub_sqT (K := X.K) r1.good hs1
          refine ⟨_, _, rfl, .inr ⟨q1, kk _ env1 h1 _ wd1 H1 le1 r1 ?_ (by rw [enD_len, ← rs1.length]; exact siz_sqT r1.good hs1)⟩⟩
          unfold WalkD
          rw [enD_len, ← rs1.length]
          refine ⟨fun i H hi z => ⟨_, _, sqT_sub X.K z hs1, List.getElem?_eq_getElem hi⟩, fun H z => ⟨_, sqT_sub X.K z hs1, rfl⟩, fun i H x H' hi z y => ?_⟩
          obtain ⟨p, a, e1, e2, e3, e4⟩ := y
          exact yd_en rs1 e1 e2 e3 (e4 _ (sqT_sub X.K z hs1))
      | _ => cases ex
    · exact h1.elim⟩
def bokB (j n : Int) : Prop := 0 ≤ n ∧ ((j = 0 ∧ n < 2 ^ 4000) ∨ (j = 1 ∧ n < 2 ^ 100) ∨ j = 2)
def wBoxGet (a b : W D) : W D := a.bind fun x => b.bind fun y env Q _ => match x, y with
  | .box _, .int j => 0 ≤ j ∧ j ≤ 2 ∧ ∀ n, bokB j n → Q (.int n) env
  | _, _ => False
theorem je_boxGet {a b : Expr} {wa wb : W D} {pos : Pos} (ha : JE T X E a wa) (hb : JE T X E b wb) (hs : PlainIx b) : JE T X E (.Subscript a b pos) (wBoxGet wa wb) := by
  refine peI (pe_ix ix_list ha hb hs) fun σ H Q ⟨c, wd, env, P, Ex, rl, h, xo, kk⟩ => ⟨c, wd, env, _, Ex, rl, h, xo, fun x env1 h1 v wd1 H1 le1 r1 rp1 => ⟨c, wd1, env1, _, Ex, r1, h1, xo, fun y env2 h2 u wd2 H2 le2 r2 rp2 => ?_⟩⟩
  dsimp only at h2
  split at h2
  · rename_i q j
    cases rp2
    cases rp1 with
    | box hb0 =>
      have hb := le2.b _ hb0
      obtain ⟨_, g, s, cc, e1, g0, g1, s0, s1, c0⟩ := r2.good.box _ hb
      obtain ⟨j0, j2, h2⟩ := h2
      have : j = 0 ∨ j = 1 ∨ j = 2 := by omega
      rcases this with rfl | rfl | rfl
      · exact ⟨_, _, _, .int g, rfl, rfl, .inl (.inl e1), rfl, kk _ env2 (h2 g ⟨g0, .inl ⟨rfl, g1⟩⟩) _ wd2 H2 (le1.trans le2) r2 (.int _)⟩
      · exact ⟨_, _, _, .int s, rfl, rfl, .inl (.inl e1), rfl, kk _ env2 (h2 s ⟨s0, .inr (.inl ⟨rfl, s1⟩)⟩) _ wd2 H2 (le1.trans le2) r2 (.int _)⟩
      · exact ⟨_, _, _, .int cc, rfl, rfl, .inl (.inl e1), rfl, kk _ env2 (h2 cc ⟨c0, .inr (.inr rfl)⟩) _ wd2 H2 (le1.trans le2) r2 (.int _)⟩
  · exact h2.elim
theorem Rel.boxSet {K : PySem.W.Frag} {c : Ctx} {wd : Wd} {env : PEnv} {σ : L2.St} {H : Hp} (r : Rel K T c wd env σ H) {b : Addr} (hb : b ∈ wd.B) {g s cc : Int} (h : 0 ≤ g ∧ g < 2 ^ 4000 ∧ 0 ≤ s ∧ s < 2 ^ 100 ∧ 0 ≤ cc) : Rel K T c wd env σ (upd H b (.lst [.int g, .int s, .int cc])) := by
  obtain ⟨m0, g', s', c', e, _⟩ := r.good.box b hb
  refine r.go (Ord.refl _ _) ⟨fun a o q => ?_, r.good.ntb, fun b' hb' => ?_, fun q hq => ?_, siz_upd r.good.siz (by show 3 ≤ sizeLine; decide)⟩ ⟨fun a o q n t => ?_, fun a q => ?_⟩
  · rw [upd_ne (fun z => by rw [z, m0] at q; cases q)]
    exact r.good.sub a o q
  · obtain ⟨z1, g2, s2, c2, z2, z3⟩ := r.good.box b' hb'
    by_cases hbb : b' = b
    · subst hbb
      exact ⟨z1, g, s, cc, upd_same, h⟩
    · exact ⟨z1, g2, s2, c2, by rw [upd_ne hbb]; exact z2, z3⟩
  · obtain ⟨ps, z1, z2, z3⟩ := r.good.tab q hq
    refine ⟨ps, ?_, z2, fun pos cv hc => ?_⟩
    · rw [upd_ne (fun z => by rw [z, e] at z1; cases z1)]
      exact z1
    · obtain ⟨a, y1, y2⟩ := z3 pos cv hc
      refine ⟨a, y1, ?_⟩
      rw [upd_ne (fun z => by rw [z, e] at y2; cases y2)]
      exact y2
  · rw [upd_ne (fun z => n (by rw [z]; exact hb))]
    exact q
  · by_cases ha : a = b
    · subst ha
      exact (q.no upd_same noTb_lst).elim
    · exact q.upd ha
def sBoxSet (i : Nat) (j : Int) (ew : W D) : WS := fun pe env => ew env (fun v env1 => match gt env1 i, v with
  | some (.d (.box _)), .int n => 0 ≤ j ∧ j ≤ 2 ∧ bokB j n ∧ pe.nx env1
  | _, _ => False) pe.ex
theorem js_boxSet (i : Nat) {j : Int} {x : Str} {e : Expr} {ew : W D} {p1 p2 pos py : Pos} {jj} (he : JE T X E e ew) (hN : X.N[i]? = some x := by rfl) (hv : Vis X.env.scope x := by first | exact Or.inl rfl | exact Or.inr (Or.inl rfl) | exact Or.inr (Or.inr rfl)) (hd : (x == ("__debug__" : Str)) = false := by decide)
    (hcd : (x == ("__classdict__" : Str)) = false := by decide) (hs : swapsWithSole [.Subscript (.Name x p1) (.Constant (.int j) jj py) p2] e pos.line X.env = pure false := by rfl) (hw : swappedStores [.Subscript (.Name x p1) (.Constant (.int j) jj py) p2] e X.env = pure none := by rfl)
    (h1 : (assignEach [.Subscript (.Name x p1) (.Constant (.int j) jj py) p2] X.env).map (·.2) = [assign (.Subscript (.Name x p1) (.Constant (.int j) jj py) p2) X.env] := by rfl)
    (hasg : ∀ v, assign (.Subscript (.Name x p1) (.Constant (.int j) jj py) p2) X.env v = (do
      let ov ← holding [v] (eval (.Name x p1) X.env)
      let iv ← holding [v, ov] (eval (.Constant (.int j) jj py) X.env)
      standAt p2
      holding [v, ov, iv] (setItem ov iv v)
      release [v, ov, iv] []) := by intro _; rfl) : JS T X E (.Assign [.Subscript (.Name x p1) (.Constant (.int j) jj py) p2] e pos) (sBoxSet i j ew) :=
  psI (ps_asg he (pg_sub (pe_var hN hv hd hcd) pe_int set_list hasg) hs hw h1) fun D σ H ⟨c, wd, env, pe, rl, h, o⟩ => by
    refine ⟨c, wd, env, _, _, rl, h, o.ex, fun v env1 hh u wd1 H1 le1 r1 rp1 => ?_⟩
    split at hh
    · rename_i q n eg
      cases rp1
      obtain ⟨v0, z0, z1⟩ := r1.dat i _ (gt_eq _ _ eg)
      cases z1 with
      | box hb =>
        obtain ⟨m0, g, s, cc, e1, g0, g1, s0, s1, c0⟩ := r1.good.box _ hb
        obtain ⟨j0, j2, bk, hnx⟩ := hh
        refine ⟨.ref q, z0, ?_⟩
        have : j = 0 ∨ j = 1 ∨ j = 2 := by omega
        rcases this with rfl | rfl | rfl
        · refine ⟨_, _, _, 0, rfl, rfl, e1, rfl, o.nx _ hnx _ wd1 _ le1 (r1.boxSet hb (g := n) (s := s) (cc := cc) ⟨bk.1, ?_, s0, s1, c0⟩)⟩
          rcases bk.2 with z | z | z <;> first | exact z.2 | omega
        · refine ⟨_, _, _, 1, rfl, rfl, e1, rfl, o.nx _ hnx _ wd1 _ le1 (r1.boxSet hb (g := g) (s := n) (cc := cc) ⟨g0, g1, bk.1, ?_, c0⟩)⟩
          rcases bk.2 with z | z | z
          · exact absurd z.1 (by decide)
          · exact z.2
          · exact absurd z (by decide)
        · exact ⟨_, _, _, 2, rfl, rfl, e1, rfl, o.nx _ hnx _ wd1 _ le1 (r1.boxSet hb (g := g) (s := s) (cc := n) ⟨g0, g1, s0, s1, bk.1⟩)⟩
    · exact hh.elim
def wBox (w : W (List D)) : W D := w.bind fun xs env Q _ => match xs with
  | [.int g, .int s, .int c] => (0 ≤ g ∧ g < 2 ^ 4000 ∧ 0 ≤ s ∧ s < 2 ^ 100 ∧ 0 ≤ c) ∧ ∀ p, Q (.box p) env
  | _ => False
theorem je_box {e : Expr} {w : W (List D)} (h : JF T X E e w) : JE T X E e (wBox w) :=
  peI h fun σ H Q ⟨c, wd, env, P, Ex, r, h, xo, k⟩ => ⟨c, wd, env, _, Ex, r, h, xo, fun xs env' p b wd' H' le r' rp => by
    dsimp only at p
    split at p
    · rename_i g s cc
      obtain ⟨q, vs, rfl, h1, h2, h3, h4, h5, h6, h7⟩ := rp
      obtain rfl : vs = [.int g, .int s, .int cc] := Reps.ints (ns := [g, s, cc]) h5
      have le' : Le wd' ⟨wd'.M, q :: wd'.B⟩ := ⟨Sub.refl _, fun a ha => List.mem_cons_of_mem _ ha⟩
      refine k _ env' (p.2 q) (.ref q) ⟨wd'.M, q :: wd'.B⟩ H' (le.trans le') ?_ (.box List.mem_cons_self)
      refine ⟨⟨r'.ord.le.trans le', r'.ord.fm, fun a ha => ?_⟩, ⟨r'.good.sub, r'.good.ntb, fun a ha => ?_, r'.good.tab, r'.good.siz⟩, r'.keep, r'.len, fun i d z => ?_, fun i ys z => ?_, r'.sep, fun qq hq => ?_, ⟨fun i p0 C fs z => ?_, r'.ext.ob1, fun i cs z qq hq => ?_, r'.ext.cnd, r'.ext.ce1, fun i lk kvs z => ?_, r'.ext.dc1⟩⟩
      · rcases List.mem_cons.mp ha with rfl | ha
        · exact .inr h4
        · exact r'.ord.fb a ha
      · rcases List.mem_cons.mp ha with rfl | ha
        · exact ⟨h2, g, s, cc, h1, p.1⟩
        · exact r'.good.box a ha
      · obtain ⟨v, y1, y2⟩ := r'.dat i d z
        exact ⟨v, y1, y2.mono le'⟩
      · obtain ⟨p2, us, y1, y2, y3, y4, y5, y6⟩ := r'.own i ys z
        refine ⟨p2, us, y1, y2, y3, fun hb => ?_, y5, y6.mono le'⟩
        rcases List.mem_cons.mp hb with rfl | hb
        · exact h6.o i ys z y1
        · exact y4 hb
      · obtain ⟨y1, y2, y3, y4⟩ := r'.pin qq hq
        refine ⟨y1, y2, fun hb => ?_, y4⟩
        rcases List.mem_cons.mp hb with z | hb
        · exact h7 qq hq z
        · exact y3 hb
      · obtain ⟨dx, vs, y1, y2, y3, y4, y5, y6⟩ := r'.ext.obj i p0 C fs z
        exact ⟨dx, vs, y1, y2, y3, y4, y5, y6.mono le'⟩
      · obtain ⟨⟨vs, y1, y2⟩, y3, y4, y5, y6⟩ := r'.ext.cel i cs z qq hq
        refine ⟨⟨vs, y1, y2.mono le'⟩, y3, fun hb => ?_, y5, y6⟩
        rcases List.mem_cons.mp hb with e | hb
        · exact h6.c i cs z qq hq e
        · exact y4 hb
      · obtain ⟨p0, vs, y1, y2, y3, y4, y5, y6⟩ := r'.ext.dct i lk kvs z
        exact ⟨p0, vs, y1, y2, y3, y4, y5, y6.mono le'⟩
    · exact p.elim⟩
end
end Pd

namespace Pd
open PySem PySem.Spec PyProof.Rows L2 LamX

section
variable {X : Cx} {T : List (Addr × Str)} {E : XK} {k : Nat}
theorem Bd.u (B : Bd X E k) : X.A.units + 200 < cLine := by have := B.room.un; omega
theorem Bd.u64 (B : Bd X E k) : X.A.units + 64 < cLine := by have := B.room.un; omega
theorem Bd.u65 (B : Bd X E k) : X.A.units + 65 < cLine := by have := B.room.un; omega
theorem Rel.frzF {K : PySem.W.Frag} {c : Ctx} {wd : Wd} {env : PEnv} {σ : L2.St} {H : Hp} {v : V} {xs : List D} (r' : Rel K T c wd env σ H) (rp : rF K c wd env σ H v xs) : ∃ wd', Le wd wd' ∧ Rel K T c wd' env σ H ∧ Rep K wd' v (.lst xs) := by
  obtain ⟨q, vs, rfl, h1, h2, h3, h4, h5, h6, h7⟩ := rp
  have le' : Le wd (wd.add q (.lst vs)) := Le.add h2
  refine ⟨wd.add q (.lst vs), le', ?_, .lst upd_same (h5.mono le')⟩
  have uq : ∀ {a : Addr} {o : HO}, (wd.add q (.lst vs)).M a = some o → (a = q ∧ o = .lst vs) ∨ wd.M a = some o := fun {a o} z => by
    by_cases ha : a = q
    · subst ha
      have z' : upd wd.M a (.lst vs) a = some o := z
      rw [upd_same] at z'
      cases z'
      exact .inl ⟨rfl, rfl⟩
    · have z' : upd wd.M q (.lst vs) a = some o := z
      rw [upd_ne ha] at z'
      exact .inr z'
  refine ⟨⟨r'.ord.le.trans le', fun a o z => ?_, r'.ord.fb⟩, ⟨fun a o z => ?_, fun a o z => ?_, fun b hb => ?_, r'.good.tab, r'.good.siz⟩, r'.keep, r'.len, fun i d z => ?_, fun i ys z => ?_, r'.sep, fun qq hq => ?_, r'.ext.addM h2 h6.c h1⟩
  · rcases uq z with ⟨rfl, rfl⟩ | z
    · exact .inr (.inl h4)
    · exact r'.ord.fm a o z
  · rcases uq z with ⟨rfl, rfl⟩ | z
    · exact h1
    · exact r'.good.sub a o z
  · rcases uq z with ⟨rfl, rfl⟩ | z
    · exact ⟨noTb_lst, r'.good.siz _ _ h1⟩
    · exact r'.good.ntb a o z
  · obtain ⟨z1, z2⟩ := r'.good.box b hb
    refine ⟨?_, z2⟩
    show upd wd.M q (.lst vs) b = none
    rw [upd_ne (show b ≠ q from fun z => h3 (z ▸ hb))]
    exact z1
  · obtain ⟨v, y1, y2⟩ := r'.dat i d z
    exact ⟨v, y1, y2.mono le'⟩
  · obtain ⟨p2, us, y1, y2, y3, y4, y5, y6⟩ := r'.own i ys z
    refine ⟨p2, us, y1, y2, ?_, y4, y5, y6.mono le'⟩
    show upd wd.M q (.lst vs) p2 = none
    rw [upd_ne (show p2 ≠ q from fun zz => h6.o i ys z (by rw [← zz]; exact y1))]
    exact y3
  · obtain ⟨y1, y2, y3, y4⟩ := r'.pin qq hq
    refine ⟨y1, ?_, y3, y4⟩
    show upd wd.M q (.lst vs) qq.1 = none
    rw [upd_ne (show qq.1 ≠ q from fun zz => h7 qq hq zz)]
    exact y2
theorem js_setCompD (i : Nat) {y : Str} {elt iter tg : Expr} {ifs : List Expr} {scope : Scope} (own : List (Str × Nat)) {pos spos py : Pos} {w : W (List D)} {g : WG} {wt : W Bool} {we : W D} (B : Bd X E k) (hi : JI T X E tg iter w) (ok : BlkOk X.N X.env.scope scope own)
    (hg : ∀ (s : Shared) (H : Hp) (C : Addr) (cl : List (Str × Addr)) (fp : List Addr), JG T (X.blk s H scope (compEnvC scope cl C X.env) fp) (own.map (·.2)) tg g)
    (ht : ∀ (s : Shared) (H : Hp) (C : Addr) (cl : List (Str × Addr)) (fp : List Addr), Bd (X.blk s H scope (compEnvC scope cl C X.env) fp) E0 k → JTs T (X.blk s H scope (compEnvC scope cl C X.env) fp) E0 ifs wt)
    (he : ∀ (s : Shared) (H : Hp) (C : Addr) (cl : List (Str × Addr)) (fp : List Addr), Bd (X.blk s H scope (compEnvC scope cl C X.env) fp) E0 k → JE T (X.blk s H scope (compEnvC scope cl C X.env) fp) E0 elt we)
    (hsw : swapsWith (.ListComp elt [⟨tg, iter, ifs, 0⟩] scope pos) (some (.Name y py)) spos.line X.env = pure true) (hy : X.N[i]? = some y := by rfl) (hyl : X.env.scope.names.lookup y = some .local := by rfl)
    (hs : ∀ x, foldedSetIterable iter X.env x = pure x := by intro _; rfl) : JS T X E (.Assign [.Name y py] (.ListComp elt [⟨tg, iter, ifs, 0⟩] scope pos) spos) (sSet i (wLst (wComp w g wt we (own.map (·.2))))) := by
  have Bb : ∀ (s : Shared) (H : Hp) (C : Addr) (cl : List (Str × Addr)) (fp : List Addr), Bd (X.blk s H scope (compEnvC scope cl C X.env) fp) E0 k := fun s H C cl fp => ⟨B.room, passL, PassesOwn.never, B.calm, B.nd⟩
  exact psI (ps_setLc B.calm B.nd hy hyl hsw hi ok hg (fun s H C cl fp => ht s H C cl fp (Bb s H C cl fp)) (fun s H C cl fp => he s H C cl fp (Bb s H C cl fp)) hs) fun D σ H ⟨c, wd, env, pe, r, h, o⟩ =>
    lc_lift ⟨c, wd, env, fun xs env' => pe.nx (env'.set i (some (.d (.lst xs)))), _, r, h, o.ex, fun xs env' h' v wd' H' le r' f => by
      obtain ⟨wd2, le2, r2, rp⟩ := r'.frzF f
      exact o.nx _ h' _ wd2 H' (le.trans le2) (r2.set rp)⟩
def rSl (K : PySem.W.Frag) (c : Ctx) (wd : Wd) (env : PEnv) (σ : L2.St) (H : Hp) : V → Sl → Prop
  | v, .d x => Rep K wd v x
  | v, .own xs => rF K c wd env σ H v xs
  | _, _ => False
def rMs (K : PySem.W.Frag) (c : Ctx) (wd : Wd) (env : PEnv) (σ : L2.St) (H : Hp) : List V → List Sl → Prop
  | [], [] => True
  | v :: vs, s :: ss => rSl K c wd env σ H v s ∧ rMs K c wd env σ H vs ss ∧ ∀ xs, s = .own xs → ∀ (j : Nat) (ys : List D), ss[j]? = some (.own ys) → vs[j]? ≠ some v
  | _, _ => False
abbrev JM (T : List (Addr × Str)) (X : Cx) (E : XK) (es : List Expr) (w : W (List Sl)) : Prop := PA X es (lift X.K T (rMs X.K) E w)
def mNil : W (List Sl) := .ret []
def mE (a : W D) (r : W (List Sl)) : W (List Sl) := a.bind fun x => r.bind fun xs => .ret (.d x :: xs)
def mF (a : W (List D)) (r : W (List Sl)) : W (List Sl) := a.bind fun x => r.bind fun xs => .ret (.own x :: xs)
theorem jm_nil : JM T X E [] mNil := paI pa_nil fun σ H Q ⟨c, wd, env, P, Ex, r, h, _, k⟩ => k [] env h [] wd H (Le.refl _) r trivial
theorem jm_e {e : Expr} {es : List Expr} {a : W D} {w : W (List Sl)} (ha : JE T X E e a) (hr : JM T X E es w) (hs : starEach (e :: es) X.env = (false, eval e X.env) :: starEach es X.env := by rfl) : JM T X E (e :: es) (mE a w) :=
  paI (pa_cons ha hr hs) fun σ H Q ⟨c, wd, env, P, Ex, r, h, xo, k⟩ =>
    ⟨c, wd, env, _, Ex, r, h, xo, fun x env1 h1 v wd1 H1 le1 r1 rp1 => ⟨c, wd1, env1, _, Ex, r1, h1, xo, fun xs env2 h2 vs wd2 H2 le2 r2 rp2 => k _ env2 h2 (v :: vs) wd2 H2 (le1.trans le2) r2 ⟨Rep.mono le2 rp1, rp2, fun _ z => nomatch z⟩⟩⟩
theorem Rel.pinF {K : PySem.W.Frag} {c : Ctx} {wd : Wd} {env : PEnv} {σ : L2.St} {H : Hp} {p : Addr} {us : List V} (r : Rel K T c wd env σ H) (h1 : H p = some (.lst us)) (h2 : wd.M p = none) (h3 : p ∉ wd.B) (h6 : NoOwn env σ p) :
    Rel K T { c with pn := (p, us) :: c.pn } wd env σ H := ⟨r.ord, r.good, r.keep, r.len, r.dat, r.own, r.sep, fun q hq => by
  rcases List.mem_cons.mp hq with rfl | hq
  · exact ⟨h1, h2, h3, h6⟩
  · exact r.pin q hq, ⟨r.ext.obj, r.ext.ob1, r.ext.cel, r.ext.cnd, r.ext.ce1, r.ext.dct, r.ext.dc1⟩⟩
theorem rF_ne {K : PySem.W.Frag} {c : Ctx} {wd : Wd} {env : PEnv} {σ : L2.St} {H : Hp} {p : Addr} {us : List V} {pn : List (Addr × List V)} : ∀ {vs : List V} {ss : List Sl}, rMs K { c with pn := (p, us) :: pn } wd env σ H vs ss →
    rMs K { c with pn := pn } wd env σ H vs ss ∧ ∀ (j : Nat) (ys : List D), ss[j]? = some (.own ys) → vs[j]? ≠ some (.ref p)
  | [], [], _ => ⟨trivial, fun j ys h => by simp at h⟩
  | [], _ :: _, h => h.elim
  | _ :: _, [], h => h.elim
  | v :: vs, s :: ss, ⟨h1, h2, h3⟩ => by
    obtain ⟨i1, i2⟩ := rF_ne h2
    have key : rSl K { c with pn := pn } wd env σ H v s ∧ ∀ ys, s = .own ys → v ≠ .ref p := by
      cases s with
      | d x => exact ⟨h1, fun _ z => nomatch z⟩
      | obj _ _ _ => exact h1.elim
      | cels _ => exact h1.elim
      | dct _ _ => exact h1.elim
      | own xs =>
        obtain ⟨q, ws, rfl, a1, a2, a3, a4, a5, a6, a7⟩ := h1
        exact ⟨⟨q, ws, rfl, a1, a2, a3, a4, a5, a6, fun z hz => a7 z (List.mem_cons_of_mem _ hz)⟩, fun ys _ z => by
          cases z
          exact a7 (p, us) List.mem_cons_self rfl⟩
    refine ⟨⟨key.1, i1, h3⟩, fun j ys hj => ?_⟩
    cases j with
    | zero =>
      have e : s = .own ys := by simpa using hj
      intro z
      exact key.2 ys e (by simpa using z)
    | succ j => 
      have := i2 j ys (by simpa using hj)
      simpa using this
theorem jm_f {e : Expr} {es : List Expr} {a : W (List D)} {w : W (List Sl)} (ha : JF T X E e a) (hr : JM T X E es w) (hs : starEach (e :: es) X.env = (false, eval e X.env) :: starEach es X.env := by rfl) : JM T X E (e :: es) (mF a w) :=
  paI (pa_cons ha hr hs) fun σ H Q ⟨c, wd, env, P, Ex, r, h, xo, k⟩ =>
    ⟨c, wd, env, _, Ex, r, h, xo, fun x env1 h1 v wd1 H1 le1 r1 rp1 => by
      obtain ⟨p, us, rfl, a1, a2, a3, a4, a5, a6, a7⟩ := rp1
      refine ⟨{ c with pn := (p, us) :: c.pn }, wd1, env1, _, Ex, r1.pinF a1 a2 a3 a6, h1, xo, fun xs env2 h2 vs wd2 H2 le2 r2 rp2 => ?_⟩
      obtain ⟨b1, b2, b3, b4⟩ := r2.pin (p, us) List.mem_cons_self
      obtain ⟨i1, i2⟩ := rF_ne rp2
      exact k _ env2 h2 (.ref p :: vs) wd2 H2 (le1.trans le2) r2.done ⟨⟨p, us, rfl, b1, b2, b3, a4, a5.mono le2, b4, a7⟩, i1, fun _ _ j ys hj => i2 j ys hj⟩⟩
theorem rMs.set1 {K : PySem.W.Frag} {c : Ctx} {wd : Wd} {env : PEnv} {σ : L2.St} {H : Hp} {v : V} {s : Sl} {vs : List V} {ss : List Sl} (r : Rel K T c wd env σ H) (i : Nat) (m : rMs K c wd env σ H (v :: vs) (s :: ss)) :
    Rel K T c wd (env.set i (some s)) (σ.set i (some v)) H ∧ rMs K c wd (env.set i (some s)) (σ.set i (some v)) H vs ss := by
  obtain ⟨h1, h2, h3⟩ := m
  refine ⟨?_, ?_⟩
  · cases s with
    | d x => exact r.set h1
    | own xs => exact r.ownF h1
    | obj _ _ _ => exact h1.elim
    | cels _ => exact h1.elim
    | dct _ _ => exact h1.elim
  · have hl : ∀ {l : List V} {t : List Sl}, rMs K c wd env σ H l t → (∀ (j : Nat) (ys : List D), t[j]? = some (.own ys) → ∀ xs, s = .own xs → l[j]? ≠ some v) → rMs K c wd (env.set i (some s)) (σ.set i (some v)) H l t := fun {l} => by
      induction l with
      | nil =>
        intro t h _
        cases t with
        | nil => exact trivial
        | cons _ _ => exact h.elim
      | cons u l ih =>
        intro t h hn
        cases t with
        | nil => exact h.elim
        | cons z t =>
          obtain ⟨g1, g2, g3⟩ := h
          refine ⟨?_, ih g2 (fun j ys hj xs e => by simpa using hn (j + 1) ys (by simpa using hj) xs e), g3⟩
          cases z with
          | d x => exact g1
          | obj _ _ _ => exact g1.elim
          | cels _ => exact g1.elim
          | dct _ _ => exact g1.elim
          | own ys =>
            obtain ⟨p, us, rfl, a1, a2, a3, a4, a5, a6, a7⟩ := g1
            refine ⟨p, us, rfl, a1, a2, a3, a4, a5, ⟨fun j zs e => ?_, a6.c.set_d fun cs z => ?_⟩, a7⟩
            rotate_left
            · subst z
              exact h1.elim
            rcases get_set e with ⟨rfl, e, hlt⟩ | ⟨ne, e⟩
            · rw [r.len] at hlt
              rw [List.getElem?_set_self hlt]
              intro q
              have q' : v = V.ref p := by cases q; rfl
              exact hn 0 ys rfl zs (Option.some.inj e) (by rw [q']; rfl)
            · rw [List.getElem?_set_ne ne]
              exact a6.o j zs e
    exact hl h2 fun j ys hj xs e => h3 xs e j ys hj
def sParM2 (i j : Nat) (m : W (List Sl)) : WS := fun pe env => m env (fun ss env' => match ss with
  | [a, b] => pe.nx ((env'.set i (some a)).set j (some b))
  | _ => False) pe.ex
theorem js_parM2 (i j : Nat) {x y : Str} {a b : Expr} {m : W (List Sl)} {px py pt pos : Pos} {kt k2 pt2} (B : Bd X E k) (hm : JM T X E [a, b] m)
    (hi : X.N[i]? = some x := by rfl) (hj : X.N[j]? = some y := by rfl) (hij : i ≠ j := by decide) (hx : X.env.scope.names.lookup x = some .local := by rfl) (hy : X.env.scope.names.lookup y = some .local := by rfl)
    (hw : swappedStores [.Tuple [.Name x px, .Name y py] kt pt] (.Tuple [a, b] k2 pt2) X.env = pure (some [x, y]) := by rfl)
    (hs : swapsWithSole [.Tuple [.Name x px, .Name y py] kt pt] (.Tuple [a, b] k2 pt2) pos.line X.env = pure false := by rfl) :
    JS T X E (.Assign [.Tuple [.Name x px, .Name y py] kt pt] (.Tuple [a, b] k2 pt2) pos) (sParM2 i j m) :=
  psI (ps_par B.calm B.nd hi hj hij hx hy hm hw hs) fun D σ H ⟨c, wd, env, pe, r, h, o⟩ =>
    ⟨c, wd, env, _, _, r, h, o.ex, fun ss env1 h1 vs wd1 H1 le1 r1 rp1 => by
      split at h1
      · rename_i s1 s2
        match vs, rp1 with
        | [u, v], rp1 =>
          obtain ⟨q1, m1⟩ := rMs.set1 r1 i rp1
          obtain ⟨q2, m2⟩ := rMs.set1 q1 j m1
          exact ⟨u, v, rfl, o.nx _ h1 _ wd1 H1 le1 q2⟩
      · exact h1.elim⟩
def sParM3 (i j l : Nat) (m : W (List Sl)) : WS := fun pe env => m env (fun ss env' => match ss with
  | [a, b, c] => pe.nx (((env'.set i (some a)).set j (some b)).set l (some c))
  | _ => False) pe.ex
theorem js_parM3 (i j l : Nat) {x y z : Str} {a b e : Expr} {m : W (List Sl)} {px py pz pt pos : Pos} {kt k2 pt2} (B : Bd X E k) (hm : JM T X E [a, b, e] m)
    (hi : X.N[i]? = some x := by rfl) (hj : X.N[j]? = some y := by rfl) (hl : X.N[l]? = some z := by rfl) (hij : i ≠ j := by decide) (hil : i ≠ l := by decide) (hjl : j ≠ l := by decide)
    (hx : X.env.scope.names.lookup x = some .local := by rfl) (hy : X.env.scope.names.lookup y = some .local := by rfl) (hz : X.env.scope.names.lookup z = some .local := by rfl)
    (hw : swappedStores [.Tuple [.Name x px, .Name y py, .Name z pz] kt pt] (.Tuple [a, b, e] k2 pt2) X.env = pure (some [x, y, z]) := by rfl)
    (hs : swapsWithSole [.Tuple [.Name x px, .Name y py, .Name z pz] kt pt] (.Tuple [a, b, e] k2 pt2) pos.line X.env = pure false := by rfl) :
    JS T X E (.Assign [.Tuple [.Name x px, .Name y py, .Name z pz] kt pt] (.Tuple [a, b, e] k2 pt2) pos) (sParM3 i j l m) :=
  psI (ps_par3 B.calm B.nd hi hj hl hij hil hjl hx hy hz hm hw hs) fun D σ H ⟨c, wd, env, pe, r, h, o⟩ =>
    ⟨c, wd, env, _, _, r, h, o.ex, fun ss env1 h1 vs wd1 H1 le1 r1 rp1 => by
      split at h1
      · rename_i s1 s2 s3
        match vs, rp1 with
        | [u, v, w], rp1 =>
          obtain ⟨q1, m1⟩ := rMs.set1 r1 i rp1
          obtain ⟨q2, m2⟩ := rMs.set1 q1 j m1
          obtain ⟨q3, m3⟩ := rMs.set1 q2 l m2
          exact ⟨u, v, w, rfl, o.nx _ h1 _ wd1 H1 le1 q3⟩
      · exact h1.elim⟩
theorem Top.mono {K : PySem.W.Frag} {wd wd' : Wd} {H : Hp} {v : V} {d : D} (t : Top K wd H v d) (le : Le wd wd') : Top K wd' H v d := by
  rcases t with t | ⟨p, vs, xs, a, b, c, e⟩
  · exact .inl (t.mono le)
  · exact .inr ⟨p, vs, xs, a, b, c, e.mono le⟩
theorem je_dict0 {pos : Pos} : JE T X E (.Dict [] [] pos) (W.ret (.dic [])) :=
  peI pe_dnewK fun σ H Q ⟨c, wd, env, P, Ex, rl, h, xo, kk⟩ => fun p hp => by
    have g : Grow wd H (wd.add p (.dK [])) (upd H p (.dK [])) := Grow.one hp noTb_dK trivial
    exact kk _ env h (.ref p) _ _ (Le.add (rl.good.mnone hp)) (rl.grow g) (.dic upd_same rfl .nil)
end
end Pd

namespace Pd
open PySem PySem.Spec PyProof.Rows L2 LamX
section
variable {P : Program} {w : World} {K : PySem.W.Frag} {mg : Str → Option Value} {base : Heap} {T : List (Addr × Str)}
def HasD (K : PySem.W.Frag) (mg : Str → Option Value) (x : Str) (st : Stmt) : Prop := ∃ f fd, FunD K x x (defArgs st) (defBody st) (defScope st) [] [] f fd ∧ mg x = some (.ref f)
theorem def_okX {x : Str} {st : Stmt} {N ps : List Str} {k : Nat} {F : Fn} (D : HasD K mg x st) (S : FnScope N ps (defScope st)) (bn : ∀ f fd, FunD K x x (defArgs st) (defBody st) (defScope st) [] [] f fd → Binds K fd ps [])
    (len : ∀ ds Q Ex, F ds Q Ex → ds.length = ps.length)
    (hd : ∀ (cdv : Value) (A : Around) (outer : List Env) (s : Shared) (H : Hp) (E : XK) (f : Addr), Bd (cxOf (L2.CX P w) P w K mg base N x (defScope st) f cdv A outer s H E) E k → Takes (cxOf (L2.CX P w) P w K mg base N x (defScope st) f cdv A outer s H E) (fun cls d _ H => E cls d H) →
      ∃ wb, JSs T (cxOf (L2.CX P w) P w K mg base N x (defScope st) f cdv A outer s H E) E (defBody st) wb ∧ ∀ ds Q Ex, F ds Q Ex → wb (dEnds Q Ex) (startE N ds)) : DefOk P w K mg base T x (k + 1) ps F := by
  obtain ⟨f, fd, D, gm⟩ := D
  exact def_ok D S gm (bn f fd D) len fun cdv A outer s H E B tk => hd cdv A outer s H E f B tk
end
end Pd

namespace Pd
open PySem PySem.Spec PyProof.Rows L2 LamX
section
variable {X : Cx} {T : List (Addr × Str)} {E : XK} {k : Nat}
section
variable {x : Str} {e o : Expr} {p apos pos : Pos}
end
end
end Pd

namespace Pd
open PySem PySem.Spec PyProof.Rows L2 LamX
abbrev K1 := (D → PEnv → Prop)
def xBin (f : D → D → PEnv → K1 → Prop) (a b : W D) : W D := a.bind fun x => b.bind fun y env Q _ => f x y env Q
def x1 (f : D → PEnv → K1 → Prop) (a : W D) : W D := a.bind fun x env Q _ => f x env Q
def Asks2 (f : D → D → PEnv → K1 → Prop) (g : D → D → Option D) : Prop := ∀ x y env Q, f x y env Q → ∃ z, g x y = some z ∧ Q z env
def Asks1 (f : D → PEnv → K1 → Prop) (g : D → Option D) : Prop := ∀ x env Q, f x env Q → ∃ z, g x = some z ∧ Q z env
def fAdd : D → D → PEnv → K1 → Prop := fun x y env Q => match x, y with
  | .int a, .int b => Q (.int (a + b)) env
  | .tup xs, .tup ys => xs.length + ys.length ≤ 1000000 ∧ Q (.tup (xs ++ ys)) env
  | .lst xs, .lst ys => xs.length + ys.length ≤ 1000000 ∧ Q (.lst (xs ++ ys)) env
  | .str x, .str y => x.length + y.length ≤ 1000000 ∧ Q (.str (x ++ y)) env
  | _, _ => False
def fMul : D → D → PEnv → K1 → Prop := fun x y env Q => match x, y with
  | .int a, .int b => ((a.natAbs < 2 ^ 64 ∨ b.natAbs < 2 ^ 64) ∨ a.natAbs.log2 + b.natAbs.log2 < 1000000) ∧ Q (.int (a * b)) env
  | .tup xs, .int k => (xs ≠ [] ∧ -1000 ≤ k ∧ k ≤ 1000 ∧ xs.length ≤ 1000) ∧ Q (.tup (List.replicate k.toNat xs).flatten) env
  | .lst xs, .int k => (-1000000 ≤ k ∧ k ≤ 1000000 ∧ xs.length * k.toNat ≤ 1000000) ∧ Q (.lst (List.replicate k.toNat xs).flatten) env
  | _, _ => False
def fDiv : D → D → PEnv → K1 → Prop := fun x y env Q => match x, y with
  | .int a, .int b => (0 < b ∧ b.natAbs.log2 < 9000) ∧ Q (.int (a / b)) env
  | _, _ => False
def fMod : D → D → PEnv → K1 → Prop := fun x y env Q => match x, y with
  | .int a, .int b => 0 < b ∧ Q (.int (a % b)) env
  | _, _ => False
def fPow : D → D → PEnv → K1 → Prop := fun x y env Q => match x, y with
  | .int a, .int b => (0 ≤ b ∧ (Builtin.Int.intBits a : Int) * b ≤ 2 ^ 27) ∧ Q (.int (a ^ b.toNat)) env
  | _, _ => False
def fEq : D → D → PEnv → K1 → Prop := fun x y env Q => (plain 60 x && plain 60 y) = true ∧ Q (.bl (eqb x y)) env
def fNe : D → D → PEnv → K1 → Prop := fun x y env Q => (plain 60 x && plain 60 y) = true ∧ Q (.bl (!eqb x y)) env
def fIn : D → D → PEnv → K1 → Prop := fun x y env Q => match y with
  | .lst ys => (plain 59 x && ys.all (plain 59)) = true ∧ Q (.bl (ys.any fun y => eqb y x)) env
  | .tup ys => (plain 59 x && ys.all (plain 59)) = true ∧ Q (.bl (ys.any fun y => eqb y x)) env
  | _ => False
def fNotIn : D → D → PEnv → K1 → Prop := fun x y env Q => match y with
  | .lst ys => (plain 59 x && ys.all (plain 59)) = true ∧ Q (.bl (!ys.any fun y => eqb y x)) env
  | .tup ys => (plain 59 x && ys.all (plain 59)) = true ∧ Q (.bl (!ys.any fun y => eqb y x)) env
  | _ => False
def fIdx : D → D → PEnv → K1 → Prop := fun x y env Q => ∃ z, dIdx x y = some z ∧ Q z env
def fSum : D → PEnv → K1 → Prop := fun x env Q => ∃ ns : List Int, dItems x = some (ns.map D.int) ∧ Q (.int ns.sum) env
def fAll : D → PEnv → K1 → Prop := fun x env Q => match x with
  | .lst xs => ∃ bs : List Bool, xs = bs.map D.bl ∧ Q (.bl (bs.all id)) env
  | _ => False
def fAny : D → PEnv → K1 → Prop := fun x env Q => match x with
  | .lst xs => ∃ bs : List Bool, xs = bs.map D.bl ∧ Q (.bl (bs.any id)) env
  | _ => False
theorem as_add : Asks2 fAdd dAdd := fun x y env Q h => by
  unfold fAdd at h
  split at h
  · exact ⟨_, rfl, h⟩
  · exact ⟨_, if_pos h.1, h.2⟩
  · exact ⟨_, if_pos h.1, h.2⟩
  · exact ⟨_, if_pos h.1, h.2⟩
  · exact h.elim
theorem as_mul : Asks2 fMul dMul := fun x y env Q h => by
  unfold fMul at h
  split at h
  · exact ⟨_, if_pos h.1, h.2⟩
  · exact ⟨_, if_pos h.1, h.2⟩
  · exact ⟨_, if_pos h.1, h.2⟩
  · exact h.elim
theorem as_div : Asks2 fDiv dDiv := fun x y env Q h => by
  unfold fDiv at h
  split at h
  · exact ⟨_, if_pos h.1, h.2⟩
  · exact h.elim
theorem as_mod : Asks2 fMod dMod := fun x y env Q h => by
  unfold fMod at h
  split at h
  · exact ⟨_, if_pos h.1, h.2⟩
  · exact h.elim
theorem as_pow : Asks2 fPow dPow := fun x y env Q h => by
  unfold fPow at h
  split at h
  · exact ⟨_, if_pos h.1, h.2⟩
  · exact h.elim
theorem as_eq : Asks2 fEq dEq := fun x y env Q h => ⟨_, if_pos h.1, h.2⟩
theorem as_ne : Asks2 fNe dNe := fun x y env Q h => ⟨_, if_pos h.1, h.2⟩
theorem as_in : Asks2 fIn dIn := fun x y env Q h => by
  unfold fIn at h
  split at h
  · exact ⟨_, if_pos h.1, h.2⟩
  · exact ⟨_, if_pos h.1, h.2⟩
  · exact h.elim
theorem as_notIn : Asks2 fNotIn dNotIn := fun x y env Q h => by
  unfold fNotIn at h
  split at h
  · refine ⟨_, ?_, h.2⟩
    show dNot (if _ then _ else _) = _
    rw [if_pos h.1]
    rfl
  · refine ⟨_, ?_, h.2⟩
    show dNot (if _ then _ else _) = _
    rw [if_pos h.1]
    rfl
  · exact h.elim
theorem as_idx : Asks2 fIdx dIdx := fun x y env Q h => h
theorem as_sum : Asks1 fSum dSum := fun x env Q ⟨ns, e, q⟩ => by
  cases x with
  | lst xs =>
    cases e
    exact ⟨_, by show (asInts _).map _ = _; rw [asInts_map]; rfl, q⟩
  | tup xs =>
    cases e
    exact ⟨_, by show (asInts _).map _ = _; rw [asInts_map]; rfl, q⟩
  | _ => cases e
section
variable {X : Cx} {T : List (Addr × Str)} {E : XK} {k : Nat} {e x y : Expr} {a b : W D} {pos : Pos}
theorem lift_x2 {K : PySem.W.Frag} {r : R2} {f : D → D → PEnv → K1 → Prop} {g : D → D → Option D} {a b : W D} {σ : L2.St} {H : Hp} {Q : VK} (hf : Asks2 f g)
    (ho : ∀ (x y z : D), g x y = some z → ∀ (T : List (Addr × Str)) (wd : Wd) (H : Hp) (v u : V) (Q : VK), Good T wd H → Rep K wd v x → Rep K wd u y → Del K wd H z Q → r v u H Q)
    (h : lift K T (rE K) E (xBin f a b) σ H Q) : tOp r (lift K T (rE K) E a) (lift K T (rE K) E b) σ H Q := by
  obtain ⟨c, wd, env, P, Ex, rl, h, xo, k⟩ := h
  refine ⟨c, wd, env, _, Ex, rl, h, xo, fun x env1 h1 v wd1 H1 le1 r1 rp1 => ⟨c, wd1, env1, _, Ex, r1, h1, xo, fun y env2 h2 u wd2 H2 le2 r2 rp2 => ?_⟩⟩
  obtain ⟨z, e, hz⟩ := hf _ _ _ _ h2
  exact ho x y z e T wd2 H2 v u Q r2.good (Rep.mono le2 rp1) rp2 fun w wd3 H3 g3 rp3 => k z env2 hz w wd3 H3 ((le1.trans le2).trans (g3.le r2.good)) (r2.grow g3) rp3
theorem jx_bin {op : Operator} {f : D → D → PEnv → K1 → Prop} {g : D → D → Option D} (hf : Asks2 f g) (ho : OpD X (binaryOp op) g) (ha : JE T X E x a) (hb : JE T X E y b) : JE T X E (.BinOp x op y pos) (xBin f a b) := by
  obtain ⟨r, hr, hq⟩ := ho.ex
  exact peI (pe_op hr ha hb) fun σ H Q h => lift_x2 hf hq h
theorem jx_cmp {op : CmpOp} {f : D → D → PEnv → K1 → Prop} {g : D → D → Option D} (hf : Asks2 f g) (ho : OpD X (compareOp op) g) (ha : JE T X E x a) (hb : JE T X E y b) (hm : behindInMarks op y = false) : JE T X E (.Compare x [op] [y] pos) (xBin f a b) := by
  obtain ⟨r, hr, hq⟩ := ho.ex
  exact peI (pe_cmpR hr ha hb hm) fun σ H Q h => lift_x2 hf hq h
theorem jtx_cmp {op : CmpOp} {f : D → D → PEnv → K1 → Prop} {g : D → D → Option D} (hf : Asks2 f g) (ho : OpD X (compareOp op) g) (ha : JE T X E x a) (hb : JE T X E y b) (hm : behindInMarks op y = false) : JT T X E (.Compare x [op] [y] pos) (wTest (xBin f a b)) := by
  obtain ⟨r, hr, hq⟩ := ho.ex
  refine ptI (pt_cmpR hr ha hb hm) fun σ H Q ⟨c, wd, env, P, Ex, rl, h, xo, k⟩ => lift_x2 hf hq ⟨c, wd, env, _, Ex, rl, h, xo, fun x1 env1 h1 v wd1 H1 le1 r1 rp1 => ?_⟩
  dsimp only at h1
  split at h1
  · cases rp1
    exact ⟨_, rfl, k _ env1 h1 _ wd1 H1 le1 r1 rfl⟩
  · exact h1.elim
theorem as_all : Asks1 fAll dAll := fun x env Q h => by
  unfold fAll at h
  split at h
  · obtain ⟨bs, rfl, q⟩ := h
    exact ⟨_, by show (asBools _).map _ = _; rw [asBools_map]; rfl, q⟩
  · exact h.elim
theorem as_any : Asks1 fAny dAny := fun x env Q h => by
  unfold fAny at h
  split at h
  · obtain ⟨bs, rfl, q⟩ := h
    exact ⟨_, by show (asBools _).map _ = _; rw [asBools_map]; rfl, q⟩
  · exact h.elim
theorem jx_b1 {f : D → PEnv → K1 → Prop} {g : D → Option D} {id : String} {nm : Str} {p : Pos} (hf : Asks1 f g) (hc : CallB X (.builtin id) g) (hm : X.mg nm = none) (hv : bootBuiltins nm = some (.builtin id)) (ha : JB T X E e a) (hg : Gl X nm := by rfl) (hn : nm ≠ "__name__" := by decide) (hdb : (nm == ("__debug__" : Str)) = false := by decide)
    (hs : starEach [e] X.env = (false, eval e X.env) :: starEach [] X.env := by rfl) (hpl : (backTo pos (starEach [] X.env)).any (·.1) = false := by rfl) : JE T X E (.Call (.Name nm p) [e] [] pos) (x1 f a) := by
  obtain ⟨r, h1, h2⟩ := hc.ex
  refine peI (pe_callB h1 hg hm hv (pa_cons ha pa_nil hs) hn hdb hs hpl) fun σ H Q ⟨c, wd, env, P, Ex, rl, h, xo, k⟩ => ?_
  refine ⟨c, wd, env, _, Ex, rl, h, xo, fun x env1 h1 v wd1 H1 le1 r1 tp => ?_⟩
  obtain ⟨z, e1, h3⟩ := hf _ _ _ h1
  exact h2 x z e1 T wd1 H1 v Q r1.good tp fun w wd2 H2 g2 rp => k z env1 h3 w wd2 H2 (le1.trans (g2.le r1.good)) (r1.grow g2) rp
theorem jx_ix (ha : JE T X E x a) (hb : JE T X E y b) (hs : PlainIx y) : JE T X E (.Subscript x y pos) (xBin fIdx a b) := by
  refine peI (pe_ix (r := fun x y H Q => rIxL X.K x y H Q ∨ rIxT X.K x y H Q) (ix_list.or ix_tup) ha hb hs) fun σ H Q h => lift_x2 as_idx (fun x y z e T wd H v u Q g rx ry d => ?_) h
  cases rx with
  | tup hs rs =>
    cases ry with
    | int i =>
      obtain ⟨w, e1, r1⟩ := atI_reps rs e
      exact .inr ⟨_, _, _, w, rfl, rfl, sub_sqT g hs, e1, d.now r1⟩
    | _ => cases e
  | lst hs rs =>
    cases ry with
    | int i =>
      obtain ⟨w, e1, r1⟩ := atI_reps rs e
      exact .inl ⟨_, _, _, w, rfl, rfl, sub_sqL g hs, e1, d.now r1⟩
    | _ => cases e
  | scr hs =>
    cases ry with
    | int i =>
      obtain ⟨n, e1, e2⟩ := Option.map_eq_some_iff.mp e
      subst e2
      refine .inl ⟨_, _, _, .int n, rfl, rfl, sub_sqS g hs, ?_, d.now (.int n)⟩
      unfold atI at e1 ⊢
      rw [List.length_map]
      obtain ⟨j, q, e3⟩ := Option.bind_eq_some_iff.mp e1
      rw [q]
      show (List.map V.int _)[j]? = some (V.int n)
      rw [List.getElem?_map, e3]
      rfl
    | _ => cases e
  | _ => cases e
end
end Pd

namespace Pd
open PySem PySem.Spec PyProof.Rows L2 LamX
def celsOf : Option Sl → List (Addr × List D)
  | some (.cels cs) => cs
  | _ => []
def celSet (cs : List (Addr × List D)) (p : Addr) (ys : List D) : List (Addr × List D) := cs.map fun q => if q.1 = p then (p, ys) else q
theorem celSet_fst (cs : List (Addr × List D)) (p : Addr) (ys : List D) : (celSet cs p ys).map (·.1) = cs.map (·.1) := by
  unfold celSet
  rw [List.map_map]
  refine List.map_congr_left fun q _ => ?_
  show (if q.1 = p then (p, ys) else q).1 = q.1
  split
  · rename_i h
    exact h.symm
  · rfl
theorem celSet_mem {cs : List (Addr × List D)} {p : Addr} {ys : List D} {q : Addr × List D} (h : q ∈ celSet cs p ys) : (q = (p, ys) ∧ ∃ xs, (p, xs) ∈ cs) ∨ (q.1 ≠ p ∧ q ∈ cs) := by
  unfold celSet at h
  obtain ⟨r, hr, e⟩ := List.mem_map.mp h
  by_cases z : r.1 = p
  · rw [if_pos z] at e
    exact .inl ⟨e.symm, r.2, by rw [← z]; exact hr⟩
  · rw [if_neg z] at e
    subst e
    exact .inr ⟨z, hr⟩
theorem gt_of {env : PEnv} {i : Nat} {s : Sl} (h : env[i]? = some (some s)) : gt env i = some s := by
  cases e : gt env i with
  | some t =>
    have := gt_eq _ _ e
    rw [h] at this
    cases this
    rfl
  | none =>
    exfalso
    revert e h
    induction env generalizing i with
    | nil => intro h; simp at h
    | cons a env ih =>
      cases i with
      | zero =>
        intro h e
        have h' : a = some s := by simpa using h
        subst h'
        cases e
      | succ i =>
        intro h e
        exact ih (by simpa using h) e
theorem celsOf_mem {env : PEnv} {j : Nat} {q : Addr × List D} (h : q ∈ celsOf (gt env j)) : ∃ cs, env[j]? = some (some (.cels cs)) ∧ gt env j = some (.cels cs) ∧ q ∈ cs := by
  cases e : gt env j with
  | none => rw [e] at h; cases h
  | some s =>
    cases s with
    | cels cs =>
      rw [e] at h
      exact ⟨cs, gt_eq _ _ e, rfl, h⟩
    | _ => rw [e] at h; cases h
section
variable {X : Cx} {T : List (Addr × Str)} {E : XK} {k : Nat}
theorem Rel.newCel {K : PySem.W.Frag} {c : Ctx} {wd : Wd} {env : PEnv} {σ : L2.St} {H : Hp} {j : Nat} {p : Addr} {vs : List V} {xs : List D} (r : Rel K T c wd env σ H) (h1 : H p = some (.lst vs)) (h2 : wd.M p = none) (h3 : p ∉ wd.B) (h4 : Nt c.H p) (h5 : Reps K wd vs xs) (h6 : NoOwn env σ p) (h7 : ∀ q ∈ c.pn, q.1 ≠ p) :
    Rel K T c wd (env.set j (some (.cels (celsOf (gt env j) ++ [(p, xs)])))) σ H := by
  have ownS : ∀ {i : Nat} {ys : List D}, (env.set j (some (.cels (celsOf (gt env j) ++ [(p, xs)]))))[i]? = some (some (.own ys)) → env[i]? = some (some (.own ys)) := fun {i ys} e => by
    rcases get_set e with ⟨rfl, e, _⟩ | ⟨_, e⟩
    · cases e
    · exact e
  have celS : ∀ {i : Nat} {cs : List (Addr × List D)}, (env.set j (some (.cels (celsOf (gt env j) ++ [(p, xs)]))))[i]? = some (some (.cels cs)) → (i = j ∧ cs = celsOf (gt env j) ++ [(p, xs)]) ∨ (i ≠ j ∧ env[i]? = some (some (.cels cs))) := fun {i cs} e => by
    rcases get_set e with ⟨rfl, e, _⟩ | ⟨n, e⟩
    · cases e
      exact .inl ⟨rfl, rfl⟩
    · exact .inr ⟨fun z => n z.symm, e⟩
  refine ⟨r.ord, r.good, r.keep, by rw [List.length_set]; exact r.len, fun i x e => ?_, fun i ys e => r.own i ys (ownS e), fun i l as bs q e1 e2 e3 e4 => r.sep i l as bs q (ownS e1) (ownS e2) e3 e4, fun q hq => ?_, ⟨fun i p0 C fs e => ?_, fun i l p1 p2 C C' fs gs e1 e2 => ?_, fun i cs e q hq => ?_, fun i cs e => ?_, fun i l cs ds e1 e2 n q hq q' hq' => ?_, fun i lk kvs e => ?_, fun i l lk lk' ks ls p1 e1 e2 e3 e4 => ?_⟩⟩
  · rcases get_set e with ⟨rfl, e, _⟩ | ⟨_, e⟩
    · cases e
    · exact r.dat i x e
  · obtain ⟨z1, z2, z3, z4⟩ := r.pin q hq
    refine ⟨z1, z2, z3, fun i ys e => z4.o i ys (ownS e), fun i cs e q' hq' => ?_⟩
    rcases celS e with ⟨rfl, rfl⟩ | ⟨_, e⟩
    · rcases List.mem_append.mp hq' with m | m
      · obtain ⟨cs, e1, _, m⟩ := celsOf_mem m
        exact z4.c i cs e1 q' m
      · rw [List.mem_singleton] at m
        subst m
        exact fun z => h7 q hq z.symm
    · exact z4.c i cs e q' hq'
  · rcases get_set e with ⟨rfl, e, _⟩ | ⟨_, e⟩
    · cases e
    · exact r.ext.obj i p0 C fs e
  · rcases get_set e1 with ⟨rfl, e, _⟩ | ⟨_, e1⟩
    · cases e
    · rcases get_set e2 with ⟨rfl, e, _⟩ | ⟨_, e2⟩
      · cases e
      · exact r.ext.ob1 i l p1 p2 C C' fs gs e1 e2
  · rcases celS e with ⟨rfl, rfl⟩ | ⟨_, e⟩
    · rcases List.mem_append.mp hq with m | m
      · obtain ⟨cs, e1, _, m⟩ := celsOf_mem m
        obtain ⟨z1, z2, z3, z4, z5⟩ := r.ext.cel i cs e1 q m
        exact ⟨z1, z2, z3, z4, fun l ys e => z5 l ys (ownS e)⟩
      · rw [List.mem_singleton] at m
        subst m
        exact ⟨⟨vs, h1, h5⟩, h2, h3, h4, fun l ys e => h6.o l ys (ownS e)⟩
    · obtain ⟨z1, z2, z3, z4, z5⟩ := r.ext.cel i cs e q hq
      exact ⟨z1, z2, z3, z4, fun l ys e => z5 l ys (ownS e)⟩
  · rcases celS e with ⟨rfl, rfl⟩ | ⟨_, e⟩
    · rw [List.map_append]
      refine List.nodup_append.mpr ⟨?_, by simp, fun a ha b hb => ?_⟩
      · cases e : gt env i with
        | none => exact List.nodup_nil
        | some s =>
          cases s with
          | cels cs => exact r.ext.cnd i cs (gt_eq _ _ e)
          | _ => exact List.nodup_nil
      · obtain ⟨q, hq, rfl⟩ := List.mem_map.mp ha
        obtain ⟨cs, e1, _, m⟩ := celsOf_mem hq
        have : b = p := by simpa using hb
        rw [this]
        exact h6.c i cs e1 q m
    · exact r.ext.cnd i cs e
  · rcases celS e1 with ⟨rfl, rfl⟩ | ⟨n1, f1⟩
    · rcases celS e2 with ⟨rfl, rfl⟩ | ⟨n2, e2⟩
      · exact absurd rfl n
      · rcases List.mem_append.mp hq with m | m
        · obtain ⟨cs, e3, _, m⟩ := celsOf_mem m
          exact r.ext.ce1 i l cs ds e3 e2 n q m q' hq'
        · rw [List.mem_singleton] at m
          subst m
          exact fun z => h6.c l ds e2 q' hq' z.symm
    · rcases celS e2 with ⟨rfl, rfl⟩ | ⟨n2, e2⟩
      · rcases List.mem_append.mp hq' with m | m
        · obtain ⟨cs', e3, _, m⟩ := celsOf_mem m
          exact r.ext.ce1 i l cs cs' f1 e3 n q hq q' m
        · rw [List.mem_singleton] at m
          subst m
          exact h6.c i cs f1 q hq
      · exact r.ext.ce1 i l cs ds f1 e2 n q hq q' hq'
  · rcases get_set e with ⟨rfl, e, _⟩ | ⟨_, e⟩
    · cases e
    · exact r.ext.dct i lk kvs e
  · rcases get_set e1 with ⟨rfl, e, _⟩ | ⟨_, e1⟩
    · cases e
    · rcases get_set e2 with ⟨rfl, e, _⟩ | ⟨_, e2⟩
      · cases e
      · exact r.ext.dc1 i l lk lk' ks ls p1 e1 e2 e3 e4
def wCell (j : Nat) (w : W (List D)) : W D := fun env Q ex => w env (fun xs env' => ∀ p, p ∉ (celsOf (gt env' j)).map (·.1) → Q (.raw (.ref p)) (env'.set j (some (.cels (celsOf (gt env' j) ++ [(p, xs)]))))) ex
theorem je_cell (j : Nat) {e : Expr} {w : W (List D)} (h : JF T X E e w) : JE T X E e (wCell j w) :=
  peI h fun σ H Q ⟨c, wd, env, P, Ex, r, h, xo, k⟩ => ⟨c, wd, env, _, Ex, r, h, xo, fun xs env' p b wd' H' le r' rp => by
    obtain ⟨q, vs, rfl, h1, h2, h3, h4, h5, h6, h7⟩ := rp
    refine k _ _ (p q fun hm => ?_) (.ref q) wd' H' le (r'.newCel h1 h2 h3 h4 h5 h6 h7) (.raw _)
    obtain ⟨a, ha, ea⟩ := List.mem_map.mp hm
    obtain ⟨cs, e1, _, m⟩ := celsOf_mem ha
    exact h6.c j cs e1 a m ea⟩
def celIs (env : PEnv) (j : Nat) (x : D) (P : Addr → List D → Prop) : Prop := match x with
  | .raw (.ref p) => ∃ xs, (p, xs) ∈ celsOf (gt env j) ∧ P p xs
  | _ => False
theorem celIs_inv {env : PEnv} {j : Nat} {x : D} {P : Addr → List D → Prop} (h : celIs env j x P) : ∃ p xs, x = .raw (.ref p) ∧ (p, xs) ∈ celsOf (gt env j) ∧ P p xs := by
  unfold celIs at h
  split at h
  · obtain ⟨xs, h1, h2⟩ := h
    exact ⟨_, xs, rfl, h1, h2⟩
  · exact h.elim
theorem Rel.celAt {K : PySem.W.Frag} {c : Ctx} {wd : Wd} {env : PEnv} {σ : L2.St} {H : Hp} {j : Nat} {p : Addr} {xs : List D} (r : Rel K T c wd env σ H) (h : (p, xs) ∈ celsOf (gt env j)) : ∃ vs, H p = some (.lst vs) ∧ Reps K wd vs xs := by
  obtain ⟨cs, e1, _, m⟩ := celsOf_mem h
  exact (r.ext.cel j cs e1 _ m).1
def wCelB (j : Nat) (w : W D) : W D := fun env Q ex => w env (fun x env' => celIs env' j x fun _ xs => Q (.lst xs) env') ex
theorem jb_cel (j : Nat) {e : Expr} {w : W D} (h : JE T X E e w) : JB T X E e (wCelB j w) :=
  peI h fun σ H Q ⟨c, wd, env, P, Ex, r, h, xo, k⟩ => ⟨c, wd, env, _, Ex, r, h, xo, fun x env' hc v wd' H' le r' rp => by
    obtain ⟨p, xs, rfl, m, hq⟩ := celIs_inv hc
    cases rp
    obtain ⟨vs, h1, h2⟩ := r'.celAt m
    exact k _ _ hq (.ref p) wd' H' le r' (.inr ⟨p, vs, xs, rfl, rfl, h1, h2⟩)⟩
theorem Rel.mutCel {K : PySem.W.Frag} {c : Ctx} {wd : Wd} {env : PEnv} {σ : L2.St} {H : Hp} {j : Nat} {p : Addr} {xs ys : List D} {us : List V} (r : Rel K T c wd env σ H) (hm : (p, xs) ∈ celsOf (gt env j)) (hr : Reps K wd us ys) (hz : us.length ≤ sizeLine) :
    Rel K T c wd (env.set j (some (.cels (celSet (celsOf (gt env j)) p ys)))) σ (upd H p (.lst us)) := by
  obtain ⟨cs, ej, eg, m⟩ := celsOf_mem hm
  have eo : celsOf (gt env j) = cs := by rw [eg]; rfl
  rw [eo]
  obtain ⟨⟨vs, h1, h2⟩, h3, h4, h5, h6⟩ := r.ext.cel j cs ej _ m
  have h1 : H p = some (.lst vs) := h1
  have h3 : wd.M p = none := h3
  have h4 : p ∉ wd.B := h4
  have h5 : Nt c.H p := h5
  have h6 : ∀ (i : Nat) (ys : List D), env[i]? = some (some (Sl.own ys)) → σ[i]? ≠ some (some (V.ref p)) := h6
  have ownS : ∀ {i : Nat} {zs : List D}, (env.set j (some (.cels (celSet cs p ys))))[i]? = some (some (.own zs)) → env[i]? = some (some (.own zs)) := fun {i zs} e => by
    rcases get_set e with ⟨rfl, e, _⟩ | ⟨_, e⟩
    · cases e
    · exact e
  have celS : ∀ {i : Nat} {ds : List (Addr × List D)}, (env.set j (some (.cels (celSet cs p ys))))[i]? = some (some (.cels ds)) → (i = j ∧ ds = celSet cs p ys) ∨ (i ≠ j ∧ env[i]? = some (some (.cels ds))) := fun {i ds} e => by
    rcases get_set e with ⟨rfl, e, _⟩ | ⟨n, e⟩
    · cases e
      exact .inl ⟨rfl, rfl⟩
    · exact .inr ⟨fun z => n z.symm, e⟩
  have memF : ∀ {q : Addr × List D}, q ∈ celSet cs p ys → ∃ q', q' ∈ cs ∧ q'.1 = q.1 := fun {q} h => by
    rcases celSet_mem h with ⟨rfl, xs', m'⟩ | ⟨_, m'⟩
    · exact ⟨_, m', rfl⟩
    · exact ⟨q, m', rfl⟩
  refine ⟨r.ord, ⟨fun a o q => ?_, r.good.ntb, fun b hb => ?_, fun q hq => ?_, siz_upd r.good.siz hz⟩, ⟨fun a o q n t => ?_, fun a q => ?_⟩, by rw [List.length_set]; exact r.len, fun i x e => ?_, fun i zs e => ?_, fun i l as bs q e1 e2 e3 e4 => r.sep i l as bs q (ownS e1) (ownS e2) e3 e4, fun q hq => ?_, ⟨fun i p0 C fs e => ?_, fun i l p1 p2 C C' fs gs e1 e2 => ?_, fun i ds e q hq => ?_, fun i ds e => ?_, fun i l ds es e1 e2 n q hq q' hq' => ?_, fun i lk kvs e => ?_, fun i l lk lk' ks ls p1 e1 e2 e3 e4 => ?_⟩⟩
  · rw [upd_ne (fun z => by rw [z, h3] at q; cases q)]
    exact r.good.sub a o q
  · obtain ⟨z1, g, s, c', z2, z3⟩ := r.good.box b hb
    exact ⟨z1, g, s, c', by rw [upd_ne (show b ≠ p from fun z => h4 (z ▸ hb))]; exact z2, z3⟩
  · obtain ⟨ps, z1, z2, z3⟩ := r.good.tab q hq
    refine ⟨ps, ?_, z2, fun pos cv hc => ?_⟩
    · rw [upd_ne (fun z => by rw [z, h1] at z1; cases z1)]
      exact z1
    · obtain ⟨a, y1, y2⟩ := z3 pos cv hc
      refine ⟨a, y1, ?_⟩
      rw [upd_ne (fun z => by rw [z, h1] at y2; cases y2)]
      exact y2
  · rw [upd_ne (show a ≠ p from fun z => h5.no (by rw [← z]; exact q) t)]
    exact r.keep.st a o q n t
  · by_cases ha : a = p
    · subst ha
      exact h5
    · exact r.keep.dm a (q.upd ha)
  · rcases get_set e with ⟨rfl, e, _⟩ | ⟨_, e⟩
    · cases e
    · exact r.dat i x e
  · obtain ⟨a, ws, z1, z2, z3⟩ := r.own i zs (ownS e)
    exact ⟨a, ws, z1, by rw [upd_ne (show a ≠ p from fun z => h6 i zs (ownS e) (by rw [← z]; exact z1))]; exact z2, z3⟩
  · obtain ⟨z1, z2, z3, z4⟩ := r.pin q hq
    refine ⟨by rw [upd_ne (show q.1 ≠ p from fun z => z4.c j cs ej _ m z.symm)]; exact z1, z2, z3, fun i zs e => z4.o i zs (ownS e), fun i ds e q' hq' => ?_⟩
    rcases celS e with ⟨rfl, rfl⟩ | ⟨_, e⟩
    · obtain ⟨q2, m2, e2⟩ := memF hq'
      rw [← e2]
      exact z4.c i cs ej q2 m2
    · exact z4.c i ds e q' hq'
  · rcases get_set e with ⟨rfl, e, _⟩ | ⟨_, e⟩
    · cases e
    · obtain ⟨dx, ws, z1, z2, z3⟩ := r.ext.obj i p0 C fs e
      exact ⟨dx, ws, z1, by rw [upd_ne (fun z => by rw [z, h1] at z2; cases z2)]; exact z2, z3⟩
  · rcases get_set e1 with ⟨rfl, e, _⟩ | ⟨_, e1⟩
    · cases e
    · rcases get_set e2 with ⟨rfl, e, _⟩ | ⟨_, e2⟩
      · cases e
      · exact r.ext.ob1 i l p1 p2 C C' fs gs e1 e2
  · rcases celS e with ⟨rfl, rfl⟩ | ⟨ni, e⟩
    · rcases celSet_mem hq with ⟨rfl, _⟩ | ⟨ne, m'⟩
      · exact ⟨⟨us, upd_same, hr⟩, h3, h4, h5, fun l zs e => h6 l zs (ownS e)⟩
      · obtain ⟨⟨ws, z1, z2⟩, z3, z4, z5, z6⟩ := r.ext.cel i cs ej q m'
        exact ⟨⟨ws, by rw [upd_ne ne]; exact z1, z2⟩, z3, z4, z5, fun l zs e => z6 l zs (ownS e)⟩
    · obtain ⟨⟨ws, z1, z2⟩, z3, z4, z5, z6⟩ := r.ext.cel i ds e q hq
      exact ⟨⟨ws, by rw [upd_ne (r.ext.ce1 i j ds cs e ej ni q hq _ m)]; exact z1, z2⟩, z3, z4, z5, fun l zs e => z6 l zs (ownS e)⟩
  · rcases celS e with ⟨rfl, rfl⟩ | ⟨_, e⟩
    · rw [celSet_fst]
      exact r.ext.cnd i cs ej
    · exact r.ext.cnd i ds e
  · rcases celS e1 with ⟨rfl, rfl⟩ | ⟨n1, f1⟩
    · rcases celS e2 with ⟨rfl, rfl⟩ | ⟨n2, e2⟩
      · exact absurd rfl n
      · obtain ⟨q2, m2, e3⟩ := memF hq
        rw [← e3]
        exact r.ext.ce1 i l cs es ej e2 n q2 m2 q' hq'
    · rcases celS e2 with ⟨rfl, rfl⟩ | ⟨n2, e2⟩
      · obtain ⟨q2, m2, e3⟩ := memF hq'
        rw [← e3]
        exact r.ext.ce1 i l ds cs f1 ej n q hq q2 m2
      · exact r.ext.ce1 i l ds es f1 e2 n q hq q' hq'
  · rcases get_set e with ⟨rfl, e, _⟩ | ⟨_, e⟩
    · cases e
    · obtain ⟨p0, ws, z1, z2, z3⟩ := r.ext.dct i lk kvs e
      exact ⟨p0, ws, z1, by rw [upd_ne (fun z => by rw [z, h1] at z2; exact lk_lst z2)]; exact z2, z3⟩
  · rcases get_set e1 with ⟨rfl, e, _⟩ | ⟨_, e1⟩
    · cases e
    · rcases get_set e2 with ⟨rfl, e, _⟩ | ⟨_, e2⟩
      · cases e
      · exact r.ext.dc1 i l lk lk' ks ls p1 e1 e2 e3 e4
def wAppendC (j : Nat) (a e : W D) : W D := fun env Q ex => a env (fun x env1 => celIs env1 j x fun _ _ => e env1 (fun y env2 => celIs env2 j x fun p xs => xs.length < 1000000 ∧ Q .non (env2.set j (some (.cels (celSet (celsOf (gt env2 j)) p (xs ++ [y])))))) ex) ex
section
variable {o e : Expr} {apos pos : Pos}
theorem je_appendC (j : Nat) {a w : W D} (ha : JE T X E o a) (he : JE T X E e w) (hbase : attributeBase o "append" X.env (eval o X.env) = eval o X.env := by rfl)
    (hfew : ((backTo pos (starEach [e] X.env)).all (fun x => !x.1) && (backToKw pos (keywordEach [] X.env)).all (fun x => x.1.isSome) && decide ([e].length + ([] : List Keyword).length + (if ([] : List Keyword).isEmpty then 0 else 1) < 30)) = true := by rfl)
    (hline : (apos.endLine == pos.line) = true := by rfl) (hs : starEach [e] X.env = (false, eval e X.env) :: starEach [] X.env := by rfl) (hpl : (backTo pos (starEach [] X.env)).any (·.1) = false := by rfl) : JE T X E (.Call (.Attribute o "append" apos) [e] [] pos) (wAppendC j a w) :=
  peI (pe_bm F.plainAttrs_list F.slot_list_append F.type_list_append mt_append ha (pa_cons he pa_nil hs) hbase hfew hline hs hpl) fun σ H Q ⟨c, wd, env, P, Ex, rl, h, xo, kk⟩ => by
    refine ⟨c, wd, env, _, Ex, rl, h, xo, fun x env1 h1 v wd1 H1 le1 r1 rp1 => ?_⟩
    obtain ⟨p, xs0, rfl, m0, h1⟩ := celIs_inv h1
    cases rp1
    obtain ⟨vs0, g1, _⟩ := r1.celAt m0
    refine ⟨.inl ⟨rfl, vs0, .inl (.inl g1)⟩, c, wd1, env1, _, Ex, r1, h1, xo, fun y env2 h2 u wd2 H2 le2 r2 rp2 => ?_⟩
    obtain ⟨p', xs, e', m, hl, h2⟩ := celIs_inv h2
    cases e'
    obtain ⟨vs, z2, z6⟩ := r2.celAt m
    have hz : (vs ++ [u]).length ≤ sizeLine := by
      rw [List.length_append, z6.length]
      exact sz6 (Nat.succ_le_of_lt hl)
    refine ⟨_, vs, u, rfl, rfl, z2, ?_, kk _ _ h2 .non wd2 _ (le1.trans le2) (r2.mutCel m (z6.append (.cons rp2 .nil)) hz) .non⟩
    rw [List.length_append] at hz
    exact hz
end
end
end Pd

namespace Pd
open PySem PySem.Spec PyProof.Rows L2 LamX
section
variable {K : PySem.W.Frag} {T : List (Addr × Str)} {c : Ctx} {wd wd' : Wd} {env : PEnv} {σ : L2.St} {H H' : Hp}
theorem Good.nb (g : Good T wd H) {p : Addr} (h : H p = none) : p ∉ wd.B := fun z => by
  obtain ⟨_, _, _, _, e, _⟩ := g.box p z
  rw [h] at e
  cases e
theorem Good.new (g : Good T wd H) {p : Addr} {o : HO} (h : H p = none) (z : Sized o) : Good T wd (upd H p o) := by
  refine ⟨fun a u e => ?_, g.ntb, fun b hb => ?_, g.tab.ext fun b u e => ?_, siz_upd g.siz z⟩
  · have := g.sub a u e
    rw [upd_ne (ne_of_none this h)]
    exact this
  · obtain ⟨h1, gg, s, c', h2, h3⟩ := g.box b hb
    exact ⟨h1, gg, s, c', by rw [upd_ne (ne_of_none h2 h)]; exact h2, h3⟩
  · rw [upd_ne (ne_of_none e h)]
    exact e
theorem Good.put (g : Good T wd H) {p : Addr} {o : HO} (h : H p = some o) (t : noTb o) (z : Sized o) (hb : p ∉ wd.B) : Good T (wd.add p o) H := by
  have uq : ∀ {a : Addr} {u : HO}, (wd.add p o).M a = some u → (a = p ∧ u = o) ∨ wd.M a = some u := fun {a u} e => by
    by_cases ha : a = p
    · subst ha
      have e' : upd wd.M a o a = some u := e
      rw [upd_same] at e'
      cases e'
      exact .inl ⟨rfl, rfl⟩
    · have e' : upd wd.M p o a = some u := e
      rw [upd_ne ha] at e'
      exact .inr e'
  refine ⟨fun a u e => ?_, fun a u e => ?_, fun b hb' => ?_, g.tab, g.siz⟩
  · rcases uq e with ⟨rfl, rfl⟩ | e
    · exact h
    · exact g.sub a u e
  · rcases uq e with ⟨rfl, rfl⟩ | e
    · exact ⟨t, z⟩
    · exact g.ntb a u e
  · obtain ⟨z1, z2⟩ := g.box b hb'
    refine ⟨?_, z2⟩
    show upd wd.M p o b = none
    rw [upd_ne (show b ≠ p from fun z => hb (z ▸ hb'))]
    exact z1
theorem Ord.put (o : Ord wd wd' H) {p : Addr} {u : HO} (h : Nt H p) (hm : wd'.M p = none) : Ord wd (wd'.add p u) H := by
  refine ⟨o.le.trans (Le.add hm), fun a v e => ?_, o.fb⟩
  by_cases ha : a = p
  · subst ha
    exact .inr (.inl h)
  · have e' : upd wd'.M p u a = some v := e
    rw [upd_ne ha] at e'
    exact o.fm a v e'
theorem Keep.add2 {wd : Wd} {H : Hp} {p q : Addr} {o u : HO} (h : H p = none) (h' : H q = none) (n : q ≠ p) : Keep wd H (upd (upd H p o) q u) :=
  (Keep.add h).trans (Ord.refl _ _) (Keep.add (by rw [upd_ne n]; exact h'))
theorem lookup_reps : ∀ {vs : List (Str × V)} {ds : List (Str × D)} {f : Str} {d : D}, vs.map (·.1) = ds.map (·.1) → Reps K wd (vs.map (·.2)) (ds.map (·.2)) → ds.lookup f = some d → ∃ v, vs.lookup f = some v ∧ Rep K wd v d
  | [], [], f, d, _, _, h => by simp at h
  | [], _ :: _, _, _, e, _, _ => by simp at e
  | _ :: _, [], _, _, e, _, _ => by simp at e
  | (a, v) :: vs, (b, x) :: ds, f, d, e, r, h => by
    have e1 : a = b := by simpa using congrArg List.head? e
    have e2 : vs.map (·.1) = ds.map (·.1) := by simpa using congrArg List.tail e
    subst e1
    cases r with
    | cons r1 r2 =>
      by_cases hf : (f == a) = true
      · have h' : some x = some d := by
          have : List.lookup f ((a, x) :: ds) = some x := by simp only [List.lookup, hf]
          rw [this] at h
          exact h
        cases h'
        exact ⟨v, by simp only [List.lookup, hf], r1⟩
      · have hf' : (f == a) = false := by simpa using hf
        have h' : ds.lookup f = some d := by
          have : List.lookup f ((a, x) :: ds) = ds.lookup f := by simp only [List.lookup, hf']
          rw [this] at h
          exact h
        obtain ⟨w, w1, w2⟩ := lookup_reps e2 r2 h'
        exact ⟨w, by simp only [List.lookup, hf']; exact w1, w2⟩
theorem putF_new {f : Str} {v : V} : ∀ {fs : List (Str × V)}, f ∉ fs.map (·.1) → putF f v fs = fs ++ [(f, v)]
  | [], _ => rfl
  | (g, x) :: r, h => by
    have h1 : g ≠ f := fun z => h (by rw [z]; exact List.mem_cons_self)
    show (if g = f then (g, v) :: r else (g, x) :: putF f v r) = _
    rw [if_neg h1, putF_new fun z => h (List.mem_cons_of_mem _ z)]
    rfl
theorem Rel.mutObj (r : Rel K T c wd env σ H) {i : Nat} {C : Str} {fs gs : List (Str × D)} {p dx : Addr} {us ws : List (Str × V)} (e : env[i]? = some (some (.obj p C fs))) (hh : H p = some (.ins (He.ga K C) dx ws)) (en : us.map (·.1) = gs.map (·.1)) (er : Reps K wd (us.map (·.2)) (gs.map (·.2))) :
    Rel K T c wd (env.set i (some (.obj p C gs))) σ (upd H p (.ins (He.ga K C) dx us)) := by
  obtain ⟨dx', ws', hp, h2, h3, h4, h5, h6⟩ := r.ext.obj i p C fs e
  have hil : i < env.length := (List.getElem?_eq_some_iff.mp e).1
  have ownS : ∀ {l : Nat} {zs : List D}, (env.set i (some (.obj p C gs)))[l]? = some (some (.own zs)) → env[l]? = some (some (.own zs)) := fun {l zs} q => by
    rcases get_set q with ⟨rfl, q, _⟩ | ⟨_, q⟩
    · cases q
    · exact q
  have celS : ∀ {l : Nat} {cs : List (Addr × List D)}, (env.set i (some (.obj p C gs)))[l]? = some (some (.cels cs)) → env[l]? = some (some (.cels cs)) := fun {l zs} q => by
    rcases get_set q with ⟨rfl, q, _⟩ | ⟨_, q⟩
    · cases q
    · exact q
  have dctS : ∀ {l : Nat} {lk : Option Obj} {ks : DK D}, (env.set i (some (.obj p C gs)))[l]? = some (some (.dct lk ks)) → env[l]? = some (some (.dct lk ks)) := fun {l lk ks} q => by
    rcases get_set q with ⟨rfl, q, _⟩ | ⟨_, q⟩
    · cases q
    · exact q
  have nl : ∀ {a : Addr} {vs : List V}, H a = some (.lst vs) → a ≠ p := fun {a vs} q z => by
    rw [z, h2] at q
    cases q
  have hb : p ∉ wd.B := r.good.insB h2
  refine ⟨r.ord, ⟨fun a o q => ?_, r.good.ntb, fun b hb' => ?_, fun q hq => ?_, siz_upd r.good.siz trivial⟩, ⟨fun a o q n t => ?_, fun a q => ?_⟩, by rw [List.length_set]; exact r.len, fun l x q => ?_, fun l zs q => ?_, fun l m as bs q e1 e2 e3 e4 => r.sep l m as bs q (ownS e1) (ownS e2) e3 e4, fun q hq => ?_, ⟨fun l p1 C' fs' q => ?_, fun l m p1 p2 C1 C2 f1 f2 e1 e2 => ?_, fun l cs q s hs => ?_, fun l cs q => r.ext.cnd l cs (celS q), fun l m cs ds e1 e2 => r.ext.ce1 l m cs ds (celS e1) (celS e2), fun l lk kvs q => ?_, fun l m lk lk' ks ls p1 e1 e2 e3 e4 => r.ext.dc1 l m lk lk' ks ls p1 (dctS e1) (dctS e2) e3 e4⟩⟩
  · rw [upd_ne (fun z => by rw [z, h3] at q; cases q)]
    exact r.good.sub a o q
  · obtain ⟨z1, g, s, c', z2, z3⟩ := r.good.box b hb'
    exact ⟨z1, g, s, c', by rw [upd_ne (nl z2)]; exact z2, z3⟩
  · obtain ⟨ps, z1, z2, z3⟩ := r.good.tab q hq
    refine ⟨ps, ?_, z2, fun pos cv hc => ?_⟩
    · rw [upd_ne (fun z => by rw [z, h2] at z1; cases z1)]
      exact z1
    · obtain ⟨a, y1, y2⟩ := z3 pos cv hc
      refine ⟨a, y1, ?_⟩
      rw [upd_ne (fun z => by rw [z, h2] at y2; cases y2)]
      exact y2
  · rw [upd_ne (show a ≠ p from fun z => h4.no (by rw [← z]; exact q) t)]
    exact r.keep.st a o q n t
  · by_cases ha : a = p
    · subst ha
      exact h4
    · exact r.keep.dm a (q.upd ha)
  · rcases get_set q with ⟨rfl, q, _⟩ | ⟨_, q⟩
    · cases q
    · exact r.dat l x q
  · obtain ⟨a, vs, z1, z2, z3⟩ := r.own l zs (ownS q)
    exact ⟨a, vs, z1, by rw [upd_ne (nl z2)]; exact z2, z3⟩
  · obtain ⟨z1, z2, z3, z4⟩ := r.pin q hq
    exact ⟨by rw [upd_ne (nl z1)]; exact z1, z2, z3, fun l zs e => z4.o l zs (ownS e), fun l cs e => z4.c l cs (celS e)⟩
  · rcases get_set q with ⟨rfl, q, _⟩ | ⟨ne, q⟩
    · cases q
      exact ⟨dx, us, hp, upd_same, h3, h4, en, er⟩
    · exact absurd (r.ext.ob1 i l p p1 C C' fs fs' e q) ne
  · have inv : ∀ {l : Nat} {p1 : Addr} {C1 : Str} {f1 : List (Str × D)}, (env.set i (some (.obj p C gs)))[l]? = some (some (.obj p1 C1 f1)) → l = i := fun {l p1 C1 f1} q => by
      rcases get_set q with ⟨rfl, q, _⟩ | ⟨ne, q⟩
      · rfl
      · exact (r.ext.ob1 i l p p1 C C1 fs f1 e q).symm
    rw [inv e1, inv e2]
  · obtain ⟨⟨vs, z1, z2⟩, z3, z4, z5, z6⟩ := r.ext.cel l cs (celS q) s hs
    exact ⟨⟨vs, by rw [upd_ne (nl z1)]; exact z1, z2⟩, z3, z4, z5, fun m zs e => z6 m zs (ownS e)⟩
  · obtain ⟨p0, us', z1, z2, z3⟩ := r.ext.dct l lk kvs (dctS q)
    exact ⟨p0, us', z1, by rw [upd_ne (fun z => by rw [z, hh] at z2; exact lk_ins z2)]; exact z2, z3⟩
end
section
variable {X : Cx} {T : List (Addr × Str)} {E : XK} {k : Nat}
def wFld (C f : Str) (a : W D) : W D := a.bind fun x env Q _ => match x with
  | .ins C' fs => C' = C ∧ ∃ d, fs.lookup f = some d ∧ Q d env
  | _ => False
theorem je_fld {C f : Str} {e : Expr} {a : W D} {pos : Pos} (he : JE T X E e a) (cl : Cls X.K (He.ga X.K C)) (na : NoAttr X.K (He.ga X.K C) f) (hb : attributeBase e f X.env (eval e X.env) = eval e X.env := by rfl) : JE T X E (.Attribute e f pos) (wFld C f a) :=
  peI (pe_fld he hb) fun σ H Q ⟨c, wd, env, P, Ex, r, h, xo, kk⟩ => ⟨c, wd, env, _, Ex, r, h, xo, fun x env1 h1 v wd1 H1 le1 r1 rp1 => by
    dsimp only at h1
    split at h1
    · obtain ⟨rfl, d, ed, h1⟩ := h1
      cases rp1 with
      | ins hm en er =>
        obtain ⟨v', l1, l2⟩ := lookup_reps en er ed
        exact ⟨_, _, _, _, v', rfl, r1.good.sub _ _ hm, cl, na, l1, kk _ _ h1 v' wd1 H1 le1 r1 l2⟩
    · exact h1.elim⟩
def sFldO (i : Nat) (C f : Str) (e : W D) : WS := fun pe env => e env (fun d env' => match gt env' i with
  | some (.obj p C' fs) => C' = C ∧ f ∉ fs.map (·.1) ∧ fs.length < 1000 ∧ pe.nx (env'.set i (some (.obj p C (fs ++ [(f, d)]))))
  | _ => False) pe.ex
theorem js_fldO (i : Nat) {C f : Str} {x : Str} {e : Expr} {w : W D} {p pos pos' : Pos} (he : JE T X E e w) (cl : Cls X.K (He.ga X.K C)) (na : NoAttr X.K (He.ga X.K C) f) (hN : X.N[i]? = some x := by rfl) (hv : Vis X.env.scope x := by first | exact Or.inl rfl | exact Or.inr (Or.inl rfl) | exact Or.inr (Or.inr rfl)) (hd : (x == ("__debug__" : Str)) = false := by decide)
    (hcd : (x == ("__classdict__" : Str)) = false := by decide) (hs : swapsWith e (some (.Attribute (.Name x p) f pos')) pos.line X.env = pure false := by rfl) : JS T X E (.Assign [.Attribute (.Name x p) f pos'] e pos) (sFldO i C f w) :=
  psI (ps_fld (pe_var hN hv hd hcd) he hs) fun D σ H ⟨c, wd, env, pe, r, h, o⟩ => ⟨c, wd, env, _, _, r, h, o.ex, fun d env1 h1 v wd1 H1 le1 r1 rp1 => by
    split at h1
    · rename_i p0 C' fs e0
      obtain ⟨rfl, nf, hl, h1⟩ := h1
      obtain ⟨dx, vs, z1, z2, z3, z4, z5, z6⟩ := r1.ext.obj i p0 _ fs (gt_eq _ _ e0)
      have nv : f ∉ vs.map (·.1) := by rw [z5]; exact nf
      have ll : vs.length = fs.length := by simpa using congrArg List.length z5
      refine ⟨.ref p0, z1, p0, _, dx, vs, rfl, z2, cl, na, by omega, ?_⟩
      rw [putF_new nv]
      refine o.nx _ h1 _ wd1 _ le1 (r1.mutObj (gt_eq _ _ e0) z2 ?_ ?_)
      · rw [List.map_append, List.map_append, z5]
        rfl
      · rw [List.map_append, List.map_append]
        exact z6.append (.cons rp1 .nil)
    · exact h1.elim⟩
end
abbrev IFn := List D → (List (Str × D) → Prop) → (Xc → Prop) → Prop
def specI (K : PySem.W.Frag) (T : List (Addr × Str)) (C : Str) (F : IFn) : Sp := fun vs H Q E => ∃ (x dx : Addr) (us : List V) (c : Ctx) (wd : Wd) (ds : List D) (P : List (Str × D) → Prop) (Ex : Xc → Prop),
  vs = .ref x :: us ∧ c.pn = [] ∧ Ord c.wd wd c.H ∧ Good T wd H ∧ Keep c.wd c.H H ∧ H x = some (.ins (He.ga K C) dx []) ∧ wd.M x = none ∧ Nt c.H x ∧ Reps K wd us ds ∧ F ds P Ex ∧ XOk K T c E Ex ∧
  ∀ fs, P fs → ∀ (ws : List (Str × V)) (dx' : Addr) (wd' : Wd) (H' : Hp), Ord c.wd wd' c.H → Good T wd' H' → Keep c.wd c.H H' → H' x = some (.ins (He.ga K C) dx' ws) → wd'.M x = none → ws.map (·.1) = fs.map (·.1) → Reps K wd' (ws.map (·.2)) (fs.map (·.2)) → Q .non H'
def startI (N : List Str) (p : Addr) (C : Str) (ds : List D) : PEnv := some (.obj p C []) :: (ds.map (fun d => some (.d d)) ++ List.replicate (N.length - (ds.length + 1)) none)
def iEnd (p : Addr) (C : Str) (P : List (Str × D) → Prop) (env : PEnv) : Prop := match gt env 0 with
  | some (.obj p' C' fs) => p' = p ∧ C' = C ∧ P fs
  | _ => False
def iEnds (p : Addr) (C : Str) (P : List (Str × D) → Prop) (Ex : Xc → Prop) : PEnds := { nx := iEnd p C P, rt := fun _ => False, ex := Ex }
section
variable {P : Program} {w : World} {K : PySem.W.Frag} {mg : Str → Option Value} {base : Heap} {T : List (Addr × Str)}
theorem rel_startI {c : Ctx} {wd : Wd} {H : Hp} {N : List Str} {C : Str} {us : List V} {ds : List D} {x dx : Addr} (hc : c.pn = []) (o : Ord c.wd wd c.H) (g : Good T wd H) (kp : Keep c.wd c.H H) (hx : H x = some (.ins (He.ga K C) dx [])) (hm : wd.M x = none) (hn : Nt c.H x) (r : Reps K wd us ds) :
    Rel K T c wd (startI N x C ds) (L2.start N (.ref x :: us)) H := by
  have es : L2.start N (.ref x :: us) = some (.ref x) :: (us.map some ++ List.replicate (N.length - (ds.length + 1)) none) := by
    show (some (V.ref x) :: us.map some) ++ List.replicate (N.length - (us.length + 1)) none = _
    rw [r.length]
    rfl
  rw [es]
  have key : ∀ {i : Nat} {s : Sl}, (startI N x C ds)[i]? = some (some s) → (i = 0 ∧ s = .obj x C []) ∨ ∃ d v, s = .d d ∧ (some (V.ref x) :: (us.map some ++ List.replicate (N.length - (ds.length + 1)) none))[i]? = some (some v) ∧ Rep K wd v d := fun {i s} h => by
    cases i with
    | zero =>
      have : some (Sl.obj x C []) = some s := by simpa [startI] using h
      cases this
      exact .inl ⟨rfl, rfl⟩
    | succ i =>
      have h' : (ds.map (fun d => some (Sl.d d)) ++ List.replicate (N.length - (ds.length + 1)) none)[i]? = some (some s) := by simpa [startI] using h
      obtain ⟨d, v, e1, e2, e3⟩ := reps_map r _ h'
      exact .inr ⟨d, v, e1, by simpa using e2, e3⟩
  refine ⟨o, g, kp, ?_, fun i y e => ?_, fun i xs e => ?_, fun i j xs ys p e1 e2 e3 e4 => ?_, fun q hq => ?_, ⟨fun i p0 C' fs e => ?_, fun i j p1 p2 C1 C2 f1 f2 e1 e2 => ?_, fun i cs e => ?_, fun i cs e => ?_, fun i j cs ds e _ => ?_, fun i lk kvs e => ?_, fun i j lk lk' ks ls p e _ _ _ => ?_⟩⟩
  · unfold startI
    simp [r.length]
  · rcases key e with ⟨_, z⟩ | ⟨d, v, z, h1, h2⟩
    · cases z
    · cases z
      exact ⟨v, h1, h2⟩
  · rcases key e with ⟨_, z⟩ | ⟨d, v, z, _⟩ <;> cases z
  · rcases key e1 with ⟨_, z⟩ | ⟨d, v, z, _⟩ <;> cases z
  · rw [hc] at hq
    cases hq
  · rcases key e with ⟨rfl, z⟩ | ⟨d, v, z, _⟩
    · cases z
      exact ⟨dx, [], rfl, hx, hm, hn, rfl, .nil⟩
    · cases z
  · rcases key e1 with ⟨rfl, z⟩ | ⟨d, v, z, _⟩
    · rcases key e2 with ⟨rfl, _⟩ | ⟨d, v, z, _⟩
      · rfl
      · cases z
    · cases z
  · rcases key e with ⟨_, z⟩ | ⟨d, v, z, _⟩ <;> cases z
  · rcases key e with ⟨_, z⟩ | ⟨d, v, z, _⟩ <;> cases z
  · rcases key e with ⟨_, z⟩ | ⟨d, v, z, _⟩ <;> cases z
  · rcases key e with ⟨_, z⟩ | ⟨d, v, z, _⟩ <;> cases z
  · rcases key e with ⟨_, z⟩ | ⟨d, v, z, _⟩ <;> cases z
theorem init_body {C qual : Str} {scope : Scope} {f : Addr} {cdv : Value} {N : List Str} {k : Nat} {F : IFn} {body : List Stmt} {A : Around} {outer : List Env} {s : Shared} {H : Hp} {vs : List V} {Q : VK} {E : XK} (nd : N.Nodup) (hr : Room k (A.deeper (envOfC qual scope s.heap.objs.size f cdv))) (h : specI K T C F vs H Q E)
    (hd : Bd (cxOf (L2.CX P w) P w K mg base N qual scope f cdv A outer s H E) E k → Takes (cxOf (L2.CX P w) P w K mg base N qual scope f cdv A outer s H E) (fun cls d _ H => E cls d H) → ∃ wb, JSs T (cxOf (L2.CX P w) P w K mg base N qual scope f cdv A outer s H E) E body wb ∧ ∀ p ds Q Ex, F ds Q Ex → wb (iEnds p C Q Ex) (startI N p C ds)) :
    ∃ t, PSs (cxOf (L2.CX P w) P w K mg base N qual scope f cdv A outer s H E) body t ∧ t { nx := fun _ H' => Q .non H', rt := Q } (L2.start N vs) H := by
  obtain ⟨x, dx, us, c, wd, ds, P1, Ex, rfl, hc, o, g, kp, hx, hm, hn, r, hF, xo, kk⟩ := h
  have tk : Takes (cxOf (L2.CX P w) P w K mg base N qual scope f cdv A outer s H E) (fun cls d _ H => E cls d H) := takes_of rfl rfl rfl rfl
  have B : Bd (cxOf (L2.CX P w) P w K mg base N qual scope f cdv A outer s H E) E k := ⟨hr, passes_call tk fun _ _ _ _ h => h, passes_of rfl, rfl, nd⟩
  obtain ⟨wb, hj, hw⟩ := hd B tk
  have rs := rel_startI (N := N) hc o g kp hx hm hn r
  have eo : EndsOk K T c wd E (iEnds x C P1 Ex) { nx := fun _ H' => Q .non H', rt := Q } := by
    refine ⟨xo, fun env' hnx σ' wd' H' le r' => ?_, fun d hd => False.elim hd, fun _ z => z.elim, fun _ z => z.elim⟩
    have hnx' : iEnd x C P1 env' := hnx
    unfold iEnd at hnx'
    split at hnx'
    · rename_i p0 C' fs e0
      obtain ⟨rfl, rfl, hp⟩ := hnx'
      obtain ⟨dx0, ws, z1, z2, z3, z4, z5, z6⟩ := r'.ext.obj 0 _ _ fs (gt_eq _ _ e0)
      exact kk fs hp ws dx0 wd' H' r'.ord r'.good r'.keep z2 z3 z5 z6
    · exact hnx'.elim
  exact ⟨_, hj, c, wd, startI N x C ds, iEnds x C P1 Ex, rs, hw x ds P1 Ex hF, eo⟩
structure InitOk (P : Program) (w : World) (K : PySem.W.Frag) (mg : Str → Option Value) (base : Heap) (T : List (Addr × Str)) (C : Str) (k : Nat) (F : IFn) : Prop where
  ex : ∃ f, Mk K (He.ga K C) f ∧ mg C = some (.ref (He.ga K C)) ∧ FnR P w K mg base (L2.CX P w) k f (specI K T C F)
theorem InitOk.up {C : Str} {j k : Nat} {F : IFn} (d : InitOk P w K mg base T C j F) (h : j ≤ k) : InitOk P w K mg base T C k F := by
  obtain ⟨f, a, b, e⟩ := d.ex
  exact ⟨f, a, b, e.mono h⟩
def starF (n : Nat) (F : IFn) : IFn := fun ds P Ex => n ≤ ds.length ∧ ds.length ≤ 1000000 ∧ F (ds.take n ++ [.tup (ds.drop n)]) P Ex
theorem init_star {C name qual pv : Str} {params : Arguments} {body : List Stmt} {scope : Scope} {f : Addr} {fd : FuncData} {N ps : List Str} {k n : Nat} {F : IFn} (D : FunD K name qual params body scope [] [] f fd) (S : FnScope N (ps ++ [pv]) scope) (hn : ps.length = n + 1)
    (hb : ∀ (kV doc pm : Value) (an : Option Addr) (cdv ct : Value) (us rest : List Value), us.length = ps.length → bindArgs (PySem.W.fnOf name qual params body scope .none kV doc pm an cdv ct) ⟨us ++ rest, []⟩ = (newTuple rest >>= fun t => pure (ps.zip us ++ [(pv, t)])))
    (hd : ∀ (cdv : Value) (A : Around) (outer : List Env) (s : Shared) (H : Hp) (E : XK), Bd (cxOf (L2.CX P w) P w K mg base N qual scope f cdv A outer s H E) E k → Takes (cxOf (L2.CX P w) P w K mg base N qual scope f cdv A outer s H E) (fun cls d _ H => E cls d H) → ∃ wb, JSs T (cxOf (L2.CX P w) P w K mg base N qual scope f cdv A outer s H E) E body wb ∧ ∀ p ds Q Ex, F ds Q Ex → wb (iEnds p C Q Ex) (startI N p C ds)) :
    FnR P w K mg base (L2.CX P w) (k + 1) f (specI K T C (starF n F)) := by
  obtain ⟨oc, od, dV, kV, doc, pm, an, cdv, ct, osl, rfl, lk, hcd, hD, _⟩ := D.ex
  rcases hD with ⟨_, rfl⟩ | ⟨e, _⟩
  · refine FnR.imp (StX.fn_star (sp := specI K T C F) (k := k) (ps := ps) lk hcd S StX.cxUp (hb kV doc pm an cdv ct) fun A outer s H vs Q E hr h => init_body S.nd hr h fun B tk => hd cdv A outer s H E B tk) ?_
    intro vs H Q E h
    obtain ⟨x, dx, us, c, wd, ds, P1, Ex, rfl, hc, o, g, kp, hx, hm, hnn, r, ⟨f1, f2, f3⟩, xo, kk⟩ := h
    have hl := r.length
    refine ⟨.ref x :: us.take n, us.drop n, ?_, ?_, ?_, fun p hp => ?_⟩
    · rw [List.cons_append, List.take_append_drop]
    · rw [List.length_cons, List.length_take, hn, hl, Nat.min_eq_left f1]
    · rw [List.length_drop]
      exact sz6 (by omega)
    · have xp : x ≠ p := ne_of_none hx hp
      have hz : Sized (.tup (us.drop n)) := by
        show (us.drop n).length ≤ sizeLine
        rw [List.length_drop]
        exact sz6 (by omega)
      have le : Le wd (wd.add p (.tup (us.drop n))) := Le.add (g.mnone hp)
      refine ⟨x, dx, us.take n ++ [.ref p], c, wd.add p (.tup (us.drop n)), ds.take n ++ [.tup (ds.drop n)], P1, Ex, rfl, hc, o.trans (Ord.add g hp) kp, g.add hp noTb_tup hz, kp.trans o (Keep.add hp), by rw [upd_ne xp]; exact hx, ?_, hnn, ?_, f3, xo, kk⟩
      · show upd wd.M p _ x = none
        rw [upd_ne xp]
        exact hm
      · exact ((r.take n).mono le).append (.cons (.tup upd_same ((r.drop n).mono le)) .nil)
  · exact absurd rfl e
end
section
variable {X : Cx} {T : List (Addr × Str)} {E : XK} {k : Nat}
def wMake (C : Str) (F : IFn) (a : W (List D)) : W D := a.bind fun ds env Q ex => F ds (fun fs => Q (.ins C fs) env) ex
theorem lift_make {C : Str} {F : IFn} {a : W (List D)} {σ : L2.St} {H : Hp} {Q : VK} (h : lift X.K T (rE X.K) E (wMake C F a) σ H Q) : StX.tMakeR (He.ga X.K C) (specI X.K T C F) E (lift X.K T (rA X.K) E a) σ H Q := by
  obtain ⟨c, wd, env, P, Ex, r, h, xo, kk⟩ := h
  refine ⟨c, wd, env, _, Ex, r, h, xo, fun ds env1 h1 vs wd1 H1 le1 r1 rp1 x dx hx hdx ne => ?_⟩
  have ne' : x ≠ dx := fun z => ne z.symm
  have g2 : Good T wd1 (upd (upd H1 dx (.own x)) x (.ins (He.ga X.K C) dx [])) := (r1.good.new (o := .own x) hdx trivial).new (o := .ins (He.ga X.K C) dx []) (by rw [upd_ne ne']; exact hx) trivial
  refine ⟨x, dx, vs, ⟨wd1, H1, []⟩, wd1, ds, _, Ex, rfl, rfl, Ord.refl _ _, g2, Keep.add2 hdx hx ne', upd_same, r1.good.mnone hx, Nt.of hx, rp1, h1, xo.into r1.ord r1.keep, fun fs hfs ws dx' wd' H' o' g' k' z2 z3 z5 z6 => ⟨rfl, ?_⟩⟩
  have le' : Le wd' (wd'.add x (.ins (He.ga X.K C) dx' ws)) := Le.add z3
  exact kk _ env1 hfs (.ref x) (wd'.add x (.ins (He.ga X.K C) dx' ws)) H' ((le1.trans o'.le).trans le') (r1.go (o'.put (Nt.of hx) z3) (g'.put z2 noTb_ins trivial (g'.insB z2)) k') (.ins upd_same z5 (z6.mono le'))
structure PropOk (P : Program) (w : World) (K : PySem.W.Frag) (mg : Str → Option Value) (base : Heap) (T : List (Addr × Str)) (C f : Str) (k : Nat) (F : Fn) : Prop where
  cl : Cls K (He.ga K C)
  ex : ∃ (p g : Addr) (fd : FuncData), PropOf K (He.ga K C) f p g ∧ Binds K fd ["self"] [] ∧ FnOk P w K mg base (L2.CX P w) k g fd ["self"] (spec K T F)
def wProp (C : Str) (F : Fn) (a : W D) : W D := a.bind fun x env Q _ => match x with
  | .ins C' fs => C' = C ∧ F [.ins C' fs] (fun d => Q d env) (fun _ => False)
  | _ => False
theorem je_prop {C f : Str} {F : Fn} {e : Expr} {a : W D} {pos : Pos} {j : Nat} (B : Bd X E k) (G : PropOk X.prog X.w X.K X.mg X.base T C f j F) (he : JE T X E e a) (hj : j + 1 ≤ k := by decide) (hb : attributeBase e f X.env (eval e X.env) = eval e X.env := by rfl) : JE T X E (.Attribute e f pos) (wProp C F a) := by
  obtain ⟨p, g, fd, g1, g2, g3⟩ := G.ex
  have hx : Passes (L2.CX X.prog X.w) X.nox E0 := fun pins σ H s e s' I h => by
    obtain ⟨_, _, _, _, _, _, _, _, _, _, _, _, z⟩ := h
    exact z
  refine peI (pe_prop he G.cl g1 g3 (B.room.mono hj) g2 .nil hx hb) fun σ H Q ⟨c, wd, env, P, Ex, r, h, xo, kk⟩ => ⟨c, wd, env, _, Ex, r, h, xo, fun x env1 h1 v wd1 H1 le1 r1 rp1 => ?_⟩
  dsimp only at h1
  split at h1
  · obtain ⟨rfl, h1⟩ := h1
    cases rp1 with
    | ins hm en er =>
      refine ⟨_, _, _, rfl, r1.good.sub _ _ hm, wd1, [_], _, _, r1.good, .cons (.ins hm en er) .nil, h1, xok0, fun d hd v wd2 H2 o2 g2 k2 rp2 => kk _ env1 hd v wd2 H2 (le1.trans o2.le) (r1.go o2 g2 k2) rp2⟩
  · exact h1.elim
end
section
variable {P : Program} {w : World} {K : PySem.W.Frag} {mg : Str → Option Value} {base : Heap} {T : List (Addr × Str)}
theorem fn_okA {name qual : Str} {ag : Arguments} {body : List Stmt} {scope : Scope} {f : Addr} {fd : FuncData} {N ps : List Str} {k : Nat} {F : Fn} (D : FunD K name qual ag body scope [] [] f fd) (S : FnScope N ps scope) (len : ∀ ds Q Ex, F ds Q Ex → ds.length = ps.length)
    (hd : ∀ (cdv : Value) (A : Around) (outer : List Env) (s : Shared) (H : Hp) (E : XK), Bd (cxOf (L2.CX P w) P w K mg base N qual scope f cdv A outer s H E) E k → Takes (cxOf (L2.CX P w) P w K mg base N qual scope f cdv A outer s H E) (fun cls d _ H => E cls d H) →
      ∃ wb, JSs T (cxOf (L2.CX P w) P w K mg base N qual scope f cdv A outer s H E) E body wb ∧ ∀ ds Q Ex, F ds Q Ex → wb (dEnds Q Ex) (startE N ds)) : FnOk P w K mg base (L2.CX P w) (k + 1) f fd ps (spec K T F) := by
  refine D.ok S (fun vs H Q E h => ?_) (fun cdv A outer s H vs Q E hr h => ?_)
  · obtain ⟨wd, ds, P, Ex, _, r, h, _⟩ := h
    rw [r.length]
    exact len _ _ _ h
  · obtain ⟨wd, ds, P1, Ex, g, r, h, xo, kk⟩ := h
    have tk : Takes (cxOf (L2.CX P w) P w K mg base N qual scope f cdv A outer s H E) (fun cls d _ H => E cls d H) := takes_of rfl rfl rfl rfl
    have B : Bd (cxOf (L2.CX P w) P w K mg base N qual scope f cdv A outer s H E) E k := ⟨hr, passes_call tk fun _ _ _ _ h => h, passes_of rfl, rfl, S.nd⟩
    obtain ⟨wb, hj, hw⟩ := hd cdv A outer s H E B tk
    refine ⟨_, hj, ⟨wd, H, []⟩, wd, startE N ds, dEnds P1 Ex, rel_start g r, hw ds P1 Ex h, ⟨xo, fun env' hn σ' wd' H' le r' => ?_, fun d hd v wd' H' o' g' k' rp => kk d hd v wd' H' o' g' k' rp, fun _ z => z.elim, fun _ z => z.elim⟩⟩
    exact kk .non hn .non wd' H' r'.ord r'.good r'.keep .non
def HasA (K : PySem.W.Frag) (a : Addr) (name qual : Str) (st : Stmt) : Prop := ∃ fd, FunD K name qual (defArgs st) (defBody st) (defScope st) [] [] a fd
theorem prop_okX {C f qual : Str} {st : Stmt} {p g : Addr} {N : List Str} {k : Nat} {F : Fn} (cl : Cls K (He.ga K C)) (pr : PropOf K (He.ga K C) f p g) (D : HasA K g f qual st) (S : FnScope N ["self"] (defScope st)) (bn : ∀ fd, FunD K f qual (defArgs st) (defBody st) (defScope st) [] [] g fd → Binds K fd ["self"] [])
    (len : ∀ ds Q Ex, F ds Q Ex → ds.length = 1)
    (hd : ∀ (cdv : Value) (A : Around) (outer : List Env) (s : Shared) (H : Hp) (E : XK) (f : Addr), Bd (cxOf (L2.CX P w) P w K mg base N qual (defScope st) f cdv A outer s H E) E k → Takes (cxOf (L2.CX P w) P w K mg base N qual (defScope st) f cdv A outer s H E) (fun cls d _ H => E cls d H) →
      ∃ wb, JSs T (cxOf (L2.CX P w) P w K mg base N qual (defScope st) f cdv A outer s H E) E (defBody st) wb ∧ ∀ ds Q Ex, F ds Q Ex → wb (dEnds Q Ex) (startE N ds)) : PropOk P w K mg base T C f (k + 1) F := by
  obtain ⟨fd, D⟩ := D
  exact ⟨cl, p, g, fd, pr, bn fd D, fn_okA D S len fun cdv A outer s H E B tk => hd cdv A outer s H E g B tk⟩
theorem init_okS {C qual pv : Str} {st : Stmt} {f : Addr} {N ps : List Str} {k n : Nat} {F : IFn} (mk : Mk K (He.ga K C) f) (gm : mg C = some (.ref (He.ga K C))) (D : HasA K f "__init__" qual st) (S : FnScope N (ps ++ [pv]) (defScope st)) (hn : ps.length = n + 1)
    (hb : ∀ (kV doc pm : Value) (an : Option Addr) (cdv ct : Value) (us rest : List Value), us.length = ps.length → bindArgs (PySem.W.fnOf "__init__" qual (defArgs st) (defBody st) (defScope st) .none kV doc pm an cdv ct) ⟨us ++ rest, []⟩ = (newTuple rest >>= fun t => pure (ps.zip us ++ [(pv, t)])))
    (hd : ∀ (cdv : Value) (A : Around) (outer : List Env) (s : Shared) (H : Hp) (E : XK) (f : Addr), Bd (cxOf (L2.CX P w) P w K mg base N qual (defScope st) f cdv A outer s H E) E k → Takes (cxOf (L2.CX P w) P w K mg base N qual (defScope st) f cdv A outer s H E) (fun cls d _ H => E cls d H) → ∃ wb, JSs T (cxOf (L2.CX P w) P w K mg base N qual (defScope st) f cdv A outer s H E) E (defBody st) wb ∧ ∀ p ds Q Ex, F ds Q Ex → wb (iEnds p C Q Ex) (startI N p C ds)) :
    InitOk P w K mg base T C (k + 1) (starF n F) := by
  obtain ⟨fd, D⟩ := D
  exact ⟨f, mk, gm, init_star D S hn hb fun cdv A outer s H E B tk => hd cdv A outer s H E f B tk⟩
end
end Pd

namespace Pd
open PySem PySem.Spec PyProof.Rows L2 LamX
theorem wipe_at {σ : L2.St} {i : Nat} : ∀ {vs : List Nat}, i ∈ vs → (wipe σ vs)[i]? = (σ[i]?).map fun _ => none
  | [], h => by cases h
  | v :: vs, h => by
    show ((wipe σ vs).set v none)[i]? = _
    by_cases e : v = i
    · subst e
      by_cases hl : v < σ.length
      · rw [List.getElem?_set_self (by rw [wipe_length]; exact hl), List.getElem?_eq_getElem hl]
        rfl
      · rw [List.getElem?_eq_none (by rw [List.length_set, wipe_length]; omega), List.getElem?_eq_none (by omega)]
        rfl
    · rw [List.getElem?_set_ne e]
      rcases List.mem_cons.mp h with z | z
      · exact absurd z.symm e
      · exact wipe_at z
theorem wipe_wipe {σ : L2.St} {us vs : List Nat} (h : ∀ i ∈ us, i ∈ vs) : wipe (wipe σ us) vs = wipe σ vs := by
  refine List.ext_getElem? fun i => ?_
  by_cases hv : i ∈ vs
  · rw [wipe_at hv, wipe_at hv]
    by_cases hu : i ∈ us
    · rw [wipe_at hu]
      cases σ[i]? <;> rfl
    · rw [wipe_get hu]
  · rw [wipe_get hv, wipe_get hv, wipe_get fun z => hv (h i z)]
def cmpW (g : WG) (t : W Bool) (e : W D) (vs : List Nat) (Q : List D → PEnv → Prop) : List D → PEnv → List D → Prop
  | [], env, acc => Q acc (wipeE env vs)
  | x :: xs, env, acc => g x (wipeE env vs) fun env1 => t env1 (fun b env2 => br b (e env2 (fun y env3 => acc.length < 1000000 ∧ cmpW g t e vs Q xs env3 (acc ++ [y])) (fun _ => False)) (cmpW g t e vs Q xs env2 acc)) (fun _ => False)
def comp2W (g : WG) (t : W Bool) (it : W (List D)) (g1 : WG) (t1 : W Bool) (e : W D) (vs vs1 : List Nat) (Q : List D → PEnv → Prop) : List D → PEnv → List D → Prop
  | [], env, acc => Q acc env
  | x :: xs, env, acc => g x (wipeE env vs) fun env1 => t env1 (fun b env2 => br b (it env2 (fun ys env3 => cmpW g1 t1 e vs1 (fun acc' env' => comp2W g t it g1 t1 e vs vs1 Q xs env' acc') ys env3 acc) (fun _ => False)) (comp2W g t it g1 t1 e vs vs1 Q xs env2 acc)) (fun _ => False)
def wComp2 (it : W (List D)) (g : WG) (t : W Bool) (it1 : W (List D)) (g1 : WG) (t1 : W Bool) (e : W D) (vs vs1 : List Nat) : W (List D) := it.bind fun xs env Q _ => comp2W g t it1 g1 t1 e vs vs1 (fun ys env' => Q ys (restE env env' vs)) xs env []
section
variable {X : Cx} {T : List (Addr × Str)} {E : XK} {k : Nat} {tg tg1 : Expr}
theorem lc2_lift {w : W (List D)} {g : WG} {wt : W Bool} {w1 : W (List D)} {g1 : WG} {wt1 : W Bool} {we : W D} {vs vs1 : List Nat} {σ : L2.St} {H : Hp} {Q : VK} (hv : ∀ i ∈ vs1, i ∈ vs) (h : lift X.K T (rF X.K) E (wComp2 w g wt w1 g1 wt1 we vs vs1) σ H Q) :
    tLc2 (liftI X.K T E w) (liftG X.K T vs g) (lift X.K T rT E0 wt) (liftI X.K T E0 w1) (liftG X.K T vs1 g1) (lift X.K T rT E0 wt1) (lift X.K T (rE X.K) E0 we) vs vs1 σ H Q := by
  obtain ⟨c, wd, env, P, Ex, r, h, xo, kk⟩ := h
  refine ⟨c, wd, env, _, Ex, r, h, xo, fun xs env1 h1 J wd1 H1 le1 r1 wk hz Dl hD => ?_⟩
  have hc : Nt c.H Dl := r1.keep.dm Dl (Nt.of hD)
  have hq : ∀ q ∈ c.pn, q.1 ≠ Dl := fun q hm z => by
    have := (r1.pin q hm).1
    rw [z, hD] at this
    cases this
  have key : ∃ Pv : Nat → Hp → Prop, Pv = fun i H' => ∃ wd' env' acc us, Le wd1 wd' ∧ Rel X.K T { c with pn := (Dl, us) :: c.pn } wd' (wipeE env' vs) (L2.wipe σ vs) H' ∧ Reps X.K wd' us acc ∧ comp2W g wt w1 g1 wt1 we vs vs1 (fun ys env' => P ys (restE env1 env' vs)) (xs.drop i) env' acc := ⟨_, rfl⟩
  obtain ⟨Pv, ePv⟩ := key
  have mkPv : ∀ {i : Nat} {H' : Hp} (wd' env' acc us), Le wd1 wd' → Rel X.K T { c with pn := (Dl, us) :: c.pn } wd' (wipeE env' vs) (L2.wipe σ vs) H' → Reps X.K wd' us acc → comp2W g wt w1 g1 wt1 we vs vs1 (fun ys env' => P ys (restE env1 env' vs)) (xs.drop i) env' acc → Pv i H' := fun {i H'} wd' env' acc us a b c d => by
    rw [ePv]
    exact ⟨wd', env', acc, us, a, b, c, d⟩
  have exPv : ∀ {i : Nat} {H' : Hp}, Pv i H' → ∃ wd' env' acc us, Le wd1 wd' ∧ Rel X.K T { c with pn := (Dl, us) :: c.pn } wd' (wipeE env' vs) (L2.wipe σ vs) H' ∧ Reps X.K wd' us acc ∧ comp2W g wt w1 g1 wt1 we vs vs1 (fun ys env' => P ys (restE env1 env' vs)) (xs.drop i) env' acc := fun {i H'} h => by
    rw [ePv] at h
    exact h
  refine ⟨fun i m H => m = xs.length - i ∧ i ≤ xs.length ∧ Pv i H, ⟨xs.length, by simp, Nat.zero_le _, mkPv wd1 env1 [] [] (Le.refl _) ((r1.wipe vs).begin hD) .nil h1⟩, ?_⟩
  rintro i m H' ⟨rfl, hi, pv⟩
  obtain ⟨wd', env', acc, us, le, r', ru, f⟩ := exPv pv
  have G : Sub wd1.M H' := le.m.trans r'.good.sub
  by_cases hlt : i < xs.length
  · refine .inr ⟨wk.goes i H' hlt G, Pv (i + 1), fun H'' p' => ⟨xs.length - (i + 1), by omega, rfl, hlt, p'⟩, fun x H3 hy => ?_⟩
    obtain ⟨d, ed, y⟩ := wk.yields i H' x H3 hlt G hy
    obtain ⟨wd2, le2, r2, rp⟩ := r'.item le y
    have e : xs.drop i = d :: xs.drop (i + 1) := by
      obtain ⟨hi, e'⟩ := List.getElem?_eq_some_iff.mp ed
      rw [List.drop_eq_getElem_cons hi, e']
    rw [e] at f
    refine ⟨_, wd2, _, d, _, r2, rp, f, fun env2 f2 σ2 r3 ew => ?_⟩
    have ew3 : L2.wipe σ2 vs = L2.wipe σ vs := ew.trans (wipe_wipe fun _ h => h)
    refine ⟨ew3, ?_⟩
    refine ⟨_, wd2, env2, _, _, r3, f2, xok0, fun b env3 f3 bb wd3 H4 le3 r4 eb => ?_⟩
    obtain rfl : bb = b := eb
    have nxt : ∀ {wd4 : Wd} {env4 : PEnv} {H5 : Hp} {us : List V}, Rel X.K T { c with pn := (Dl, us) :: c.pn } wd4 env4 σ2 H5 → Rel X.K T { c with pn := (Dl, us) :: c.pn } wd4 (wipeE env4 vs) (L2.wipe σ vs) H5 := fun {wd4 env4 H5 us} z => by
      have := z.wipe vs
      rw [ew3] at this
      exact this
    cases bb with
    | false => exact mkPv wd3 env3 acc us ((le.trans le2).trans le3) (nxt r4) (ru.mono (le2.trans le3)) (br_f f3)
    | true =>
      show liftI X.K T E0 w1 σ2 H4 _
      refine ⟨_, wd3, env3, _, _, r4, br_t f3, xok0, fun ys env4 f4 J1 wd4 H5 le4 r5 wk1 hz1 => ?_⟩
      have key : ∃ Pw : Nat → Hp → Prop, Pw = fun j H' => ∃ wd' env' acc us, Le wd4 wd' ∧ Rel X.K T { c with pn := (Dl, us) :: c.pn } wd' (wipeE env' vs1) (L2.wipe σ2 vs1) H' ∧ Reps X.K wd' us acc ∧ cmpW g1 wt1 we vs1 (fun acc' env' => comp2W g wt w1 g1 wt1 we vs vs1 (fun ys env' => P ys (restE env1 env' vs)) (xs.drop (i + 1)) env' acc') (ys.drop j) env' acc := ⟨_, rfl⟩
      obtain ⟨Pw, ePw⟩ := key
      have mkPw : ∀ {j : Nat} {H' : Hp} (wd' env' acc us), Le wd4 wd' → Rel X.K T { c with pn := (Dl, us) :: c.pn } wd' (wipeE env' vs1) (L2.wipe σ2 vs1) H' → Reps X.K wd' us acc → cmpW g1 wt1 we vs1 (fun acc' env' => comp2W g wt w1 g1 wt1 we vs vs1 (fun ys env' => P ys (restE env1 env' vs)) (xs.drop (i + 1)) env' acc') (ys.drop j) env' acc → Pw j H' := fun {j H'} wd' env' acc us a b c d => by
        rw [ePw]
        exact ⟨wd', env', acc, us, a, b, c, d⟩
      have exPw : ∀ {j : Nat} {H' : Hp}, Pw j H' → ∃ wd' env' acc us, Le wd4 wd' ∧ Rel X.K T { c with pn := (Dl, us) :: c.pn } wd' (wipeE env' vs1) (L2.wipe σ2 vs1) H' ∧ Reps X.K wd' us acc ∧ cmpW g1 wt1 we vs1 (fun acc' env' => comp2W g wt w1 g1 wt1 we vs vs1 (fun ys env' => P ys (restE env1 env' vs)) (xs.drop (i + 1)) env' acc') (ys.drop j) env' acc := fun {j H'} h => by
        rw [ePw] at h
        exact h
      refine ⟨fun j m H => m = ys.length - j ∧ j ≤ ys.length ∧ Pw j H, ⟨ys.length, by simp, Nat.zero_le _, mkPw wd4 env4 acc us (Le.refl _) (r5.wipe vs1) (ru.mono ((le2.trans le3).trans le4)) f4⟩, ?_⟩
      rintro j m H6 ⟨rfl, hj, pw⟩
      obtain ⟨wd5, env5, acc5, us5, le5, r6, ru5, f5⟩ := exPw pw
      have G1 : Sub wd4.M H6 := le5.m.trans r6.good.sub
      by_cases hlt1 : j < ys.length
      · refine .inr ⟨wk1.goes j H6 hlt1 G1, Pw (j + 1), fun H'' p' => ⟨ys.length - (j + 1), by omega, rfl, hlt1, p'⟩, fun x1 H7 hy1 => ?_⟩
        obtain ⟨d1, ed1, y1⟩ := wk1.yields j H6 x1 H7 hlt1 G1 hy1
        obtain ⟨wd6, le6, r7, rp1⟩ := r6.item le5 y1
        have e1 : ys.drop j = d1 :: ys.drop (j + 1) := by
          obtain ⟨hi, e'⟩ := List.getElem?_eq_some_iff.mp ed1
          rw [List.drop_eq_getElem_cons hi, e']
        rw [e1] at f5
        refine ⟨_, wd6, _, d1, _, r7, rp1, f5, fun env6 f6 σ3 r8 ewb => ?_⟩
        have ewb3 : L2.wipe σ3 vs1 = L2.wipe σ2 vs1 := ewb.trans (wipe_wipe fun _ h => h)
        refine ⟨ewb3, ?_⟩
        refine ⟨_, wd6, env6, _, _, r8, f6, xok0, fun b1 env7 f7 bb1 wd7 H8 le7 r9 eb1 => ?_⟩
        obtain rfl : bb1 = b1 := eb1
        have nxt1 : ∀ {wd4 : Wd} {env4 : PEnv} {H5 : Hp} {us : List V}, Rel X.K T { c with pn := (Dl, us) :: c.pn } wd4 env4 σ3 H5 → Rel X.K T { c with pn := (Dl, us) :: c.pn } wd4 (wipeE env4 vs1) (L2.wipe σ2 vs1) H5 := fun {wd4 env4 H5 us} z => by
          have := z.wipe vs1
          rw [ewb3] at this
          exact this
        cases bb1 with
        | false => exact mkPw wd7 env7 acc5 us5 ((le5.trans le6).trans le7) (nxt1 r9) (ru5.mono (le6.trans le7)) (br_f f7)
        | true =>
          show lift X.K T (rE X.K) E0 we σ3 H8 _
          refine ⟨_, wd7, env7, _, _, r9, br_t f7, xok0, fun y1 env8 f8 yv wd8 H9 le8 r10 rp10 => ?_⟩
          have hlt : us5.length < sizeLine := by
            rw [ru5.length]
            exact Nat.lt_of_lt_of_le f8.1 (by decide)
          refine ⟨us5, (r10.pin (Dl, us5) List.mem_cons_self).1, hlt, mkPw wd8 env8 (acc5 ++ [y1]) (us5 ++ [yv]) (((le5.trans le6).trans le7).trans le8) ?_ ?_ f8.2⟩
          · exact (nxt1 r10).more hc hq yv hlt
          · exact ((ru5.mono (le6.trans le7)).mono le8).append (.cons rp10 .nil)
      · have e1 : j = ys.length := by omega
        subst e1
        refine .inl ⟨wk1.stops H6 G1, ?_⟩
        rw [List.drop_length] at f5
        refine mkPv wd5 (wipeE env5 vs1) acc5 us5 ((((le.trans le2).trans le3).trans le4).trans le5) ?_ ru5 f5
        have z := r6.wipe vs
        rw [wipe_wipe hv, ew3] at z
        exact z
  · have e : i = xs.length := by omega
    subst e
    refine .inl ⟨wk.stops H' G, ?_⟩
    rw [List.drop_length] at f
    obtain ⟨p1, p2, p3, p4⟩ := r'.pin (Dl, us) List.mem_cons_self
    have r6 : Rel X.K T c wd' (restE env1 env' vs) σ H' := Rel.rest r1 le r'.done
    have w0 : ∀ {i : Nat} {s : Sl}, i ∉ vs → env'[i]? = some (some s) → (wipeE env' vs)[i]? = some (some s) := fun {i s} hn e => by
      have key : ∀ us : List Nat, i ∉ us → (wipeE env' us)[i]? = env'[i]? := fun us => by
        induction us with
        | nil => intro _; rfl
        | cons u us ih2 =>
          intro hu
          show ((wipeE env' us).set u none)[i]? = env'[i]?
          rw [List.getElem?_set_ne (fun z => hu (by rw [← z]; exact List.mem_cons_self)), ih2 fun z => hu (List.mem_cons_of_mem _ z)]
      rw [key vs hn]
      exact e
    refine kk acc _ f (.ref Dl) wd' H' (le1.trans le) r6 ⟨Dl, us, rfl, p1, p2, p3, hc, ru, ⟨fun i ys e => ?_, fun i cs e => ?_⟩, hq⟩
    · rcases restE_some e with ⟨_, ⟨x, z⟩, _⟩ | ⟨hn, e⟩
      · cases z
      · intro z
        exact p4.o i ys (w0 hn e) (by rw [wipe_get hn]; exact z)
    · rcases restE_some e with ⟨_, ⟨x, z⟩, _⟩ | ⟨hn, e⟩
      · cases z
      · exact p4.c i cs (w0 hn e)
theorem jf_comp2 {elt iter iter1 : Expr} {ifs ifs1 : List Expr} {scope : Scope} (own : List (Str × Nat)) (vs1 : List Nat) {pos : Pos} {w : W (List D)} {g : WG} {wt : W Bool} {w1 : W (List D)} {g1 : WG} {wt1 : W Bool} {we : W D} (B : Bd X E k) (hi : JI T X E tg iter w) (ok : BlkOk X.N X.env.scope scope own)
    (hg : ∀ (s : Shared) (H : Hp) (C : Addr) (cl : List (Str × Addr)) (fp : List Addr), JG T (X.blk s H scope (compEnvC scope cl C X.env) fp) (own.map (·.2)) tg g)
    (ht : ∀ (s : Shared) (H : Hp) (C : Addr) (cl : List (Str × Addr)) (fp : List Addr), Bd (X.blk s H scope (compEnvC scope cl C X.env) fp) E0 k → JTs T (X.blk s H scope (compEnvC scope cl C X.env) fp) E0 ifs wt)
    (hi1 : ∀ (s : Shared) (H : Hp) (C : Addr) (cl : List (Str × Addr)) (fp : List Addr), Bd (X.blk s H scope (compEnvC scope cl C X.env) fp) E0 k → JI T (X.blk s H scope (compEnvC scope cl C X.env) fp) E0 tg1 iter1 w1)
    (hg1 : ∀ (s : Shared) (H : Hp) (C : Addr) (cl : List (Str × Addr)) (fp : List Addr), JG T (X.blk s H scope (compEnvC scope cl C X.env) fp) vs1 tg1 g1)
    (ht1 : ∀ (s : Shared) (H : Hp) (C : Addr) (cl : List (Str × Addr)) (fp : List Addr), Bd (X.blk s H scope (compEnvC scope cl C X.env) fp) E0 k → JTs T (X.blk s H scope (compEnvC scope cl C X.env) fp) E0 ifs1 wt1)
    (he : ∀ (s : Shared) (H : Hp) (C : Addr) (cl : List (Str × Addr)) (fp : List Addr), Bd (X.blk s H scope (compEnvC scope cl C X.env) fp) E0 k → JE T (X.blk s H scope (compEnvC scope cl C X.env) fp) E0 elt we)
    (hv : ∀ i ∈ vs1, i ∈ own.map (·.2) := by decide) (hs : ∀ x, foldedSetIterable iter X.env x = pure x := by intro _; rfl) (hs1 : ∀ env x, foldedSetIterable iter1 env x = pure x := by intro _ _; rfl) : JF T X E (.ListComp elt [⟨tg, iter, ifs, 0⟩, ⟨tg1, iter1, ifs1, 0⟩] scope pos) (wComp2 w g wt w1 g1 wt1 we (own.map (·.2)) vs1) := by
  have Bb : ∀ (s : Shared) (H : Hp) (C : Addr) (cl : List (Str × Addr)) (fp : List Addr), Bd (X.blk s H scope (compEnvC scope cl C X.env) fp) E0 k := fun s H C cl fp => ⟨B.room, passL, PassesOwn.never, B.calm, B.nd⟩
  exact peI (pe_lc2 B.calm B.nd hi ok hv hg (fun s H C cl fp => ht s H C cl fp (Bb s H C cl fp)) (fun s H C cl fp => hi1 s H C cl fp (Bb s H C cl fp)) hg1 (fun s H C cl fp => ht1 s H C cl fp (Bb s H C cl fp)) (fun s H C cl fp => he s H C cl fp (Bb s H C cl fp)) hs hs1) fun σ H Q h => lc2_lift hv h
end
end Pd

namespace Pd
open PySem PySem.Spec PyProof.Rows L2 LamX
structure Clause where
  c : Value
  i : Option Nat
  ts : Addr → Value → Option Addr → TS
def endsAs (i : Nat) (D : Ends) : Ends := { nx := fun τ G => D.nx (τ.set i none) G, rt := D.rt, bk := fun τ G => D.bk (τ.set i none) G, ct := fun τ G => D.ct (τ.set i none) G }
def Clause.wish (q : Clause) (D : Ends) (a : Addr) : WX := fun cls d τ G => match q.i with
  | none => q.ts a cls d D τ G
  | some i => q.ts a cls d (endsAs i D) (τ.set i (some (.ref a))) G
def wMix (K : PySem.W.Frag) (out : WX) (D : Ends) : List Clause → WX
  | [] => out
  | q :: r => fun cls d τ G => ∃ y, PySem.W.exmOne K cls q.c = some y ∧ (y = true → ∀ a, G a = none → q.wish D a cls d τ G) ∧ (y = false → wMix K out D r cls d τ G)
abbrev SuiteOk (X : Cx) (body : List Stmt) (ts : Addr → Value → Option Addr → TS) : Prop := ∀ (a : Addr) (oe : Obj) (cls : Value) (d : Option Addr) (pn : List (Addr × Obj)), Zc cls d oe → (∃ vs, oe.data = .fields vs) → PSs (X.suite a ((a, oe) :: pn)) body (ts a cls d)
inductive MixOk (X : Cx) : List ExceptHandler → List Clause → Prop
  | nil : MixOk X [] []
  | plain {x : Str} {c : Value} {ts : Addr → Value → Option Addr → TS} {st : Stmt} {sts : List Stmt} {p1 p2 : Pos} {hs : List ExceptHandler} {qs : List Clause} : Names X x c → SuiteOk X (st :: sts) ts → MixOk X hs qs →
      MixOk X (.ExceptHandler (some (.Name x p1)) none (st :: sts) p2 :: hs) (⟨c, none, ts⟩ :: qs)
  | named {x n : Str} {c : Value} {i : Nat} {ts : Addr → Value → Option Addr → TS} {st : Stmt} {sts : List Stmt} {p1 p2 : Pos} {hs : List ExceptHandler} {qs : List Clause} : Names X x c → X.N[i]? = some n → X.env.kindOf n = some .local → SuiteOk X (st :: sts) ts → MixOk X hs qs →
      MixOk X (.ExceptHandler (some (.Name x p1)) (some n) (st :: sts) p2 :: hs) (⟨c, some i, ts⟩ :: qs)
section
variable {X : Cx} {out : WX} {D : Ends} {pins : List (Addr × Obj)} {a : Addr} {B : Heap} {sI s' : Shared} {τ : L2.St} {G : Hp} {cls : Value} {d : Option Addr}
theorem seat {g : Heap} (hs : X.stack = X.env :: X.outer) (hf : X.env.frame = some X.env.locals) (J : Inv X pins τ G sI) (nb : ∀ b o, sI.heap.get? b = some o → b ∉ frs X.stack → B.get? b = some o) (na : G a = none) (os : s'.os = sI.os) (ag : AllBare s'.gens)
    (fl : HandSPX.FlyingZ B (X.env :: X.outer) a (Zc cls d) g) (up : sI.heap.UpToSlots g) :
    ∃ oe, g.get? a = some oe ∧ Zc cls d oe ∧ (∃ vs, oe.data = .fields vs) ∧ Inv X pins τ G { s' with heap := g } ∧ Inv (X.suite a ((a, oe) :: (X.pn ++ pins))) [] τ G { s' with heap := g } := by
  have I1 : Inv X pins τ G { s' with heap := g } := J.landed nb fl.1 up os ag
  obtain ⟨oe, vs, ho, hz, hd⟩ := fl.there
  have out : a ∉ frs (X.env :: X.outer) := fun hm => by
    obtain ⟨_, o2, e2, no⟩ := fl.2.2.1.mem hm
    rw [ho] at e2
    cases e2
    exact no _ hd
  have n1 : a ≠ X.env.locals := fun z => out (List.mem_filterMap.mpr ⟨X.env, List.mem_cons_self, by rw [hf, z]⟩)
  have n2 : a ∉ X.fs := fun hm => by
    obtain ⟨e, he, q⟩ := List.mem_filterMap.mp hm
    exact out (List.mem_filterMap.mpr ⟨e, List.mem_cons_of_mem _ he, q⟩)
  exact ⟨oe, ho, hz, ⟨vs, hd⟩, I1, I1.suite ho hd na n1 n2⟩
theorem mix_run {g : Heap} (hs : X.stack = X.env :: X.outer) (hf : X.env.frame = some X.env.locals) (nd : X.N.Nodup) (tk : Takes X out) (ok : X.Ok) (J : Inv X pins τ G sI) (nb : ∀ b o, sI.heap.get? b = some o → b ∉ frs X.stack → B.get? b = some o) (na : G a = none)
    (os : s'.os = sI.os) (ag : AllBare s'.gens) (fl : HandSPX.FlyingZ B (X.env :: X.outer) a (Zc cls d) g) (up : sI.heap.UpToSlots g) {hds : List ExceptHandler} {qs : List Clause} (m : MixOk X hds qs) :
    wMix X.K out D qs cls d τ G → wpAny (model X.prog X.w) X.A (handleBy (.ref a) X.env hds) (SP X pins D) X.xe { s' with heap := g } := by
  have back : ∀ {u : Heap}, HandSPX.FlyingZ B (X.env :: X.outer) a (Zc cls d) u → g.UpToSlots u → ∃ oe, u.get? a = some oe ∧ Zc cls d oe ∧ (∃ vs, oe.data = .fields vs) ∧ Inv X pins τ G { s' with heap := u } ∧ Inv (X.suite a ((a, oe) :: (X.pn ++ pins))) [] τ G { s' with heap := u } :=
    fun {u} f1 u1 => seat hs hf J nb na os ag f1 (up.trans u1)
  obtain ⟨oe, ho, hz, hd, I1, I2⟩ := seat hs hf J nb na os ag fl up
  have isC : PySem.W.Looks (model X.prog X.w) g (typeOf (.ref a)) cls := fun A Q E s k q => wpAny_typeOf_ref (k _ _ ho) (by rw [hz.1]; exact q)
  have nm : ∀ {x : Str} {c : Value} {p : Pos} {Q : Value → Shared → Prop} {F : Value → Shared → Prop}, Names X x c → Q c { s' with heap := g } → wpAny (model X.prog X.w) (X.A.mark (some (.ref a))) (eval (.Name x p) X.env) Q F { s' with heap := g } := fun {x c p Q F} hc q => by
    obtain ⟨h1, h2, h3 | ⟨h3, h4, h5⟩⟩ := hc
    · exact ld_glob (X := X.suite a ((a, oe) :: (X.pn ++ pins))) I2 h1 h3 q h2
    · exact ld_blt (X := X.suite a ((a, oe) :: (X.pn ++ pins))) I2 h1 h3 h4 q h5 h2
  induction m with
  | nil =>
    intro w
    refine wpAny_handleBy_nil ?_
    obtain ⟨_, _, _, o2, vs2, T, oT, ts2, e2, _, d2, f2, _⟩ := id fl
    unfold PySem.passOn
    refine wpAny_bind (wpAny_field e2 d2 f2 ?_)
    rw [if_neg (show ¬ ((Value.ref T == Value.none) = true) by simp)]
    have on : wpAny (model X.prog X.w) X.A (setFlight (.ref a) X.env.frame) (fun _ s2 => wpAny (model X.prog X.w) X.A (throw (.ref a) : Sem Flow) (SP X pins D) X.xe s2) X.xe { s' with heap := g } := by
      rw [hf]
      refine HandSPX.setFlight_upZ fl fun u hu u1 => wpAny_throw (tk _ _ ⟨a, B, sI, pins, τ, G, cls, d, rfl, J, nb, up.trans u1, .inr (.inr ?_), na, os, ag, w⟩)
      rw [hs]
      exact hu
    first
      | exact wpAny_bind (wpAny_pure (wpAny_bind on))
      | exact wpAny_bind on
  | plain hc hsu r ih =>
    rintro ⟨y, ey, yes, no⟩
    refine wpAny_handleBy_cons (codeAny_handlers_test ?_) (by intro q; cases q)
    refine nm hc ((PySem.W.exm_one (M := model X.prog X.w) I1.kIn isC ey).here ?_)
    cases y with
    | false => exact ih (no rfl)
    | true =>
      refine codeAny_handlers_suite (HandSPX.lands_againZ fl fun u f1 u1 => ?_)
      obtain ⟨o4, _, hz4, hd4, _, S4⟩ := back f1 u1
      refine wpAny_mono ((hsu a o4 cls d (X.pn ++ pins) hz4 hd4).run [] _ _ G _ S4 (yes rfl a na)) (fun f s6 hq => ?_) (fun _ _ z => False.elim z)
      cases f with
      | ret v =>
        obtain ⟨v6, τ6, G6, S6, r6, q6⟩ := hq
        exact ⟨v6, τ6, G6, S6.unsuite ok, r6, q6⟩
      | next =>
        obtain ⟨τ6, G6, S6, q6⟩ := hq
        exact ⟨τ6, G6, S6.unsuite ok, q6⟩
      | brk =>
        obtain ⟨τ6, G6, S6, q6⟩ := hq
        exact ⟨τ6, G6, S6.unsuite ok, q6⟩
      | cont =>
        obtain ⟨τ6, G6, S6, q6⟩ := hq
        exact ⟨τ6, G6, S6.unsuite ok, q6⟩
  | @named x n c i ts st sts p1 p2 hs2 qs2 hc hi hl hsu r ih =>
    rintro ⟨y, ey, yes, no⟩
    refine wpAny_handleBy_cons (codeAny_handlers_test ?_) (by intro q; cases q)
    refine nm hc ((PySem.W.exm_one (M := model X.prog X.w) I1.kIn isC ey).here ?_)
    cases y with
    | false => exact ih (no rfl)
    | true =>
      refine codeAny_handlers_suite_as (HandSPX.lands_againZ fl fun u f1 u1 => ?_)
      obtain ⟨o4, _, hz4, hd4, _, S4⟩ := back f1 u1
      refine store_ok (X := X.suite a ((a, o4) :: (X.pn ++ pins))) (v := .ref a) S4 nd hi (.inl hl) rfl (fun s5 S5 => ?_) (.inr hl)
      refine wpAny_mono ((hsu a o4 cls d (X.pn ++ pins) hz4 hd4).run [] s5 _ G _ S5 (yes rfl a na)) (fun f s6 hq => ?_) (fun _ _ z => False.elim z)
      have gone : ∀ {τ6 : L2.St} {G6 : Hp} {P : Shared → Prop}, Inv (X.suite a ((a, o4) :: (X.pn ++ pins))) [] τ6 G6 s6 → (∀ s7, Inv X pins (τ6.set i none) G6 s7 → P s7) → wpAny (model X.prog X.w) X.A (do bindName X.env n .none; unbindBehindTheSuite X.env n p2) (fun _ s7 => P s7) X.xe s6 :=
        fun {τ6 G6 P} S6 hP => gone_ok (S6.unsuite ok) nd hi hl hP
      cases f with
      | ret v =>
        obtain ⟨v6, τ6, G6, S6, r6, q6⟩ := hq
        exact gone S6 fun s7 J7 => ⟨v6, _, G6, J7, r6, q6⟩
      | next =>
        obtain ⟨τ6, G6, S6, q6⟩ := hq
        exact gone S6 fun s7 J7 => ⟨_, G6, J7, q6⟩
      | brk =>
        obtain ⟨τ6, G6, S6, q6⟩ := hq
        exact gone S6 fun s7 J7 => ⟨_, G6, J7, q6⟩
      | cont =>
        obtain ⟨τ6, G6, S6, q6⟩ := hq
        exact gone S6 fun s7 J7 => ⟨_, G6, J7, q6⟩
end
theorem ps_try_mix {X : Cx} {body : List Stmt} {h0 : ExceptHandler} {hds : List ExceptHandler} {qs : List Clause} {pos : Pos} {tb : WX → TS} {out : WX} (hs : X.stack = X.env :: X.outer) (hf : X.env.frame = some X.env.locals) (nd : X.N.Nodup) (tk : Takes X out)
    (hb : ∀ (W : WX) (pn : List (Addr × Obj)) (xe : Value → Shared → Prop), Takes (X.tr pn xe) W → PassesOwn (model X.prog X.w) X.A X.env xe → PSs (X.tr pn xe) body (tb W)) (m : MixOk X (h0 :: hds) qs) :
    PS X (.Try body (h0 :: hds) [] [] pos) (fun D τ G => tb (wMix X.K out D qs) D τ G) := by
  refine ⟨fun pins s τ G D I h => wpAny_Try_except ?_⟩
  have ok := I.ok
  have fr : X.A.frames = some (X.env :: X.outer) := by rw [ok.frames, hs]
  let xe : Value → Shared → Prop := fun e s1 => wpAny (model X.prog X.w) X.A (noteFrame e X.env) (fun _ s2 => wpAny (model X.prog X.w) X.A (setFlight e none) (fun _ s3 => wpAny (model X.prog X.w) X.A (handleBy e X.env (h0 :: hds)) (SP X pins D) X.xe s3) X.xe s2) X.xe s1
  have tk2 : Takes (X.tr (X.pn ++ pins) xe) (wMix X.K out D qs) := fun u s1 ⟨a, B, sI, _, τ1, G1, cls, d, eu, J, nb, up, sky, na, os, ag, w⟩ => by
    subst eu
    have sky2 : Sky B (X.env :: X.outer) a (Zc cls d) X.env.locals s1.heap := by rw [← hs]; exact sky
    exact Sky.land Zc.steady fr hf sky2 fun u f1 u1 => mix_run hs hf nd tk ok (J.ofTry ok) nb na os ag f1 (up.trans u1) m w
  refine wpAny_mono ((hb (wMix X.K out D qs) (X.pn ++ pins) xe tk2 PassesOwn.looking).run [] s τ G D (I.toTry _) h) (fun f s1 hq => ?_) (fun _ _ he => he)
  cases f with
  | ret v =>
    obtain ⟨v1, τ1, G1, J1, r1, q1⟩ := hq
    exact ⟨v1, τ1, G1, J1.ofTry ok, r1, q1⟩
  | next =>
    obtain ⟨τ1, G1, J1, q1⟩ := hq
    exact wpAny_execs_nil ⟨τ1, G1, J1.ofTry ok, q1⟩
  | brk =>
    obtain ⟨τ1, G1, J1, q1⟩ := hq
    exact ⟨τ1, G1, J1.ofTry ok, q1⟩
  | cont =>
    obtain ⟨τ1, G1, J1, q1⟩ := hq
    exact ⟨τ1, G1, J1.ofTry ok, q1⟩
end Pd

namespace Pd
open PySem PySem.Spec PyProof.Rows L2 LamX
abbrev SizAll (H : Hp) : Prop := ∀ a o, H a = some o → SizedH o
theorem hok_siz {P : Program} {w : World} {H : Hp} {h : Heap} (x : HOk P w H h) : SizAll H := fun a o e => by
  have z := x a o e
  cases o with
  | lst xs => exact z.1
  | tup xs => exact z.1
  | _ => exact trivial
theorem pssS {X : Cx} {sts : List Stmt} {t : TS} (h : PSs X sts t) : PSs X sts (fun D σ H => SizAll H → t D σ H) := ⟨fun pins s σ H D I q => h.run pins s σ H D I (q (hok_siz I.hok))⟩
structure ExcC (K : PySem.W.Frag) (mg : Str → Option Value) (C : Str) : Prop where
  q : PySem.W.excIn K (He.ga K C) He.veBase "ValueError.__new__" = true
  k : PySem.W.keepIn K (.ref (He.ga K C)) = true
  b : PySem.W.subIn K (.ref (He.ga K C)) (.type "BaseException") = some true
  t : PySem.W.typeIn K (.ref (He.ga K C)) = some (.type "type")
  g : mg C = some (.ref (He.ga K C))
def sRaise (C : Str) : WS := fun pe _ => pe.ex ⟨C, []⟩
section
variable {X : Cx} {T : List (Addr × Str)} {E : XK} {k : Nat}
theorem js_raise {C m : Str} {j : Nat} {p p2 pos pos' : Pos} (B : Bd X E k) (tk : Takes X (fun cls d _ H => E cls d H)) (e : ExcC X.K X.mg C) (hg : Gl X C := by rfl) (hd : (C == ("__debug__" : Str)) = false := by decide) :
    JS T X E (.Raise (some (.Call (.Name C p) [.Constant (.str m) j p2] [] pos)) none pos') (sRaise C) :=
  psI (ps_raise B.calm tk (pmk_own PySem.F.excBase_ValueError e.q e.g e.k (raises_own e.b e.t) hg hd)) fun D σ H ⟨c, wd, env, pe, r, h, o⟩ => o.ex _ h _ _ wd H r.ord r.good r.keep ⟨rfl, .inl ⟨rfl, rfl⟩⟩
end
def dOnly (env : PEnv) : PEnv := env.map keepD
theorem dOnly_some {env : PEnv} {i : Nat} {s : Sl} (h : (dOnly env)[i]? = some (some s)) : ∃ x, s = .d x ∧ env[i]? = some (some (.d x)) := by
  unfold dOnly at h
  rw [List.getElem?_map] at h
  cases e : env[i]? with
  | none => rw [e] at h; cases h
  | some o =>
    rw [e] at h
    cases o with
    | none => cases h
    | some t =>
      cases t with
      | d x =>
        have : Sl.d x = s := by simpa [keepD] using h
        exact ⟨x, this.symm, rfl⟩
      | _ => simp [keepD] at h
section
variable {K : PySem.W.Frag} {T : List (Addr × Str)} {c : Ctx} {wd : Wd} {env : PEnv} {σ : L2.St} {H H1 : Hp}
theorem Good.extN (g : Good T wd H) (e : ExtN H H1) (t : Tabs T H1) (z : SizAll H1) : Good T wd H1 := by
  refine ⟨fun a o h => e a o (g.sub a o h) (g.ntb a o h).1, g.ntb, fun b hb => ?_, t, z⟩
  obtain ⟨h1, x, s, cc, h2, h3⟩ := g.box b hb
  exact ⟨h1, x, s, cc, e b _ h2 noTb_lst, h3⟩
theorem Keep.extN (e : ExtN H H1) : Keep wd H H1 := ⟨fun a o h _ t => e a o h t, fun a n o h t => n o (e a o h t) t⟩
theorem Rel.rebase (r : Rel K T c wd env σ H) : Rel K T ⟨wd, H, []⟩ wd (dOnly env) σ H := by
  refine ⟨Ord.refl _ _, r.good, Keep.refl _ _, by unfold dOnly; rw [List.length_map]; exact r.len, fun i x e => ?_, fun i xs e => ?_, fun i j xs ys p e _ _ _ => ?_, fun q hq => (nomatch hq), ⟨fun i p C fs e => ?_, fun i j p p' C C' fs gs e _ => ?_, fun i cs e => ?_, fun i cs e => ?_, fun i j cs ds e _ => ?_, fun i lk kvs e => ?_, fun i j lk lk' ks ls p e _ _ _ => ?_⟩⟩
  · obtain ⟨y, ey, e⟩ := dOnly_some e
    cases ey
    exact r.dat i x e
  all_goals
    obtain ⟨y, ey, _⟩ := dOnly_some e
    cases ey
end
structure Hd where
  x : Str
  s : Str
  f : Option Str
def tsPl (s : Str) : Addr → Value → Option Addr → TS := fun _ _ _ D σ H => tLst (tCons (tC (.str s)) tNil) σ H D.rt
def tsNm (K : PySem.W.Frag) (C : Str) (i : Nat) (s f : Str) : Addr → Value → Option Addr → TS := fun a cls d D σ H => tLst (tCons (tC (.str s)) (tCons (tXf a cls d (He.ga K C) f (fun σ H Q => ∃ v, σ[i]? = some (some v) ∧ Q v H)) tNil)) σ H D.rt
theorem out_gives {X : Cx} {Ng : List Str} {x a q : Str} {sg : Scope} {g : Addr} {cdg : Value} {hds : List ExceptHandler} {h0 : ExceptHandler} {qs : List Clause} {p1 p2 p3 p8 : Pos} (nd : Ng.Nodup) (hN0 : ∀ f : Addr, (L2.start Ng [V.ref f])[0]? = some (some (V.ref f)))
    (m : ∀ (s : Shared) (H : Hp), MixOk (cxOf C8.CX0 X.prog X.w X.K X.mg X.base Ng x sg g cdg X.A X.stack s H C8.E0).nox (h0 :: hds) qs) :
    GivesTo X Ng x sg g cdg [.Try [.Return (some (.Call (.Name a p1) [] [] p2)) p3] (h0 :: hds) [] [] p8] a q
      (fun tl H Q => SizAll H → tl (fun cl dd H' => ∀ τ : L2.St, τ.length = Ng.length → wMix X.K (fun _ _ _ _ => False) { nx := fun _ H' => Q .non H', rt := Q } qs cl dd τ H') H Q) := by
  intro f c' s H Q tl act hc h
  refine ⟨_, pssS (pss_one (ps_try_mix (X := (cxOf C8.CX0 X.prog X.w X.K X.mg X.base Ng x sg g cdg X.A X.stack s H C8.E0).nox) (out := fun _ _ _ _ => False) rfl rfl nd LamX.takes0
    (tb := fun W D σ H => ∃ Ec : XK, (∀ cls d σ' H', Ec cls d H' → σ'.length = Ng.length → W cls d σ' H') ∧ σ[0]? = some (some (.ref f)) ∧ H c' = some (CodeO c' q) ∧ tl Ec H D.rt) (fun W pn xe tk _ => ⟨fun pins s' σ H' D I h' => ?_⟩) (m s H))), fun siz => ?_⟩
  · obtain ⟨Ec, hW, h1, h2, h3⟩ := h'
    have tk2 : Takes ((cxOf C8.CX0 X.prog X.w X.K X.mg X.base Ng x sg g cdg X.A X.stack s H C8.E0).tr pn xe) (fun cls d τ G => τ.length = Ng.length → W cls d τ G) :=
      fun u s1 ⟨b, B, sI, pins, τ, G, cls, d, e, J, nb, up, sky, na, os, ag, w⟩ => tk u s1 ⟨b, B, sI, pins, τ, G, cls, d, e, J, nb, up, sky, na, os, ag, w J.len⟩
    exact (pss_one (ps_ret (pos := p3) (act _ pn xe Ec p1 p2 tk2 hW))).run pins s' σ H' D I ⟨h1, h2, h3⟩
  · exact ⟨_, fun cls d σ' H' hE hl => hE σ' hl, hN0 f, hc, h siz⟩
section
variable {X : Cx} {T : List (Addr × Str)} {E : XK} {k : Nat}
end
end Pd

namespace Pd
open PySem PySem.Spec PyProof.Rows L2 LamX
mutual
def toR : D → PyData
  | .bl b => .bool b
  | .int i => .int i
  | .str x => .str x
  | .tup xs => .tuple (toRs xs)
  | .lst xs => .list (toRs xs)
  | .dic _ => .dict []
  | _ => .none
def toRs : List D → List PyData
  | [] => []
  | x :: xs => toR x :: toRs xs
end
mutual
def wt : D → Nat
  | .int _ => 401
  | .str x => x.cps.size
  | .tup xs => wts xs
  | .lst xs => wts xs
  | _ => 0
def wts : List D → Nat
  | [] => 0
  | x :: xs => wt x + 1 + wts xs
end
def sho : Nat → D → Bool
  | 0, _ => false
  | n + 1, d => match d with
    | .non => true
    | .bl _ => true
    | .int i => decide (i.natAbs < 10 ^ 120)
    | .str x => PyData.strOk x
    | .tup xs => xs.all (sho n)
    | .lst xs => xs.all (sho n)
    | .dic [] => true
    | _ => false
def shown (d : D) : Str := (toR d).shown
section
variable {X : Cx} {pins : List (Addr × Obj)} {σ : L2.St} {T : List (Addr × Str)} {wd : Wd} {H : Hp} {s : Shared}
structure Shw (X : Cx) (s : Shared) (u : Value) (d : PyData) : Prop where
  ex : ∃ bs as, Reads s.heap u d as ∧ ReadAtMost s.heap d.depth bs ∧ ReprK X.prog X.w bs s.heap d.depth u d.shown
structure Shws (X : Cx) (s : Shared) (us : List Value) (ds : List PyData) : Prop where
  ex : ∃ bs as, ReadsAll s.heap us ds as ∧ ReadAtMost s.heap (PyData.depthAll ds) bs ∧ ReprAllK X.prog X.w bs s.heap (PyData.depthAll ds) us (PyData.shownAll ds)
theorem Shws.nil : Shws X s [] [] := ⟨[], [], ReadsAll.nil, (fun _ h => nomatch h), ReprAllK.nil⟩
theorem Shws.cons {u : Value} {us : List Value} {d : PyData} {ds : List PyData} (a : Shw X s u d) (b : Shws X s us ds) : Shws X s (u :: us) (d :: ds) := by
  obtain ⟨b1, a1, r1, m1, k1⟩ := a.ex
  obtain ⟨b2, a2, r2, m2, k2⟩ := b.ex
  have l1 : d.depth ≤ PyData.depthAll (d :: ds) := by simp only [PyData.depthAll]; omega
  have l2 : PyData.depthAll ds ≤ PyData.depthAll (d :: ds) := by simp only [PyData.depthAll]; omega
  refine ⟨b1 ++ b2, a1 ++ a2, .cons r1 r2, (m1.mono l1).append (m2.mono l2), ?_⟩
  exact .cons ((k1.more fun b hb => List.mem_append_left _ hb).level_le l1) (k2.more_le (fun b hb => List.mem_append_right _ hb) l2)
theorem Shws.top {us : List Value} {ds : List PyData} (b : Shws X s us ds) {a : Addr} {o : Obj} {n : Nat} (h1 : s.heap.get? a = some o) (h2 : o.cls = .type "list" ∧ o.data = .seq us.toArray n ∨ o.cls = .type "tuple" ∧ o.data = .seq us.toArray n) :
    ∃ bs, a ∉ bs ∧ ReprAllK X.prog X.w bs s.heap (PyData.depthAll ds) us (PyData.shownAll ds) ∧ ReadAtMost s.heap (PyData.depthAll ds) bs := by
  obtain ⟨bs, as, r, m, k⟩ := b.ex
  have key : ∀ {d : PyData}, Reads s.heap (.ref a) d (match d with | .list _ => a :: as | _ => as) → PyData.depthAll ds < d.depth → a ∉ bs := fun {d} r hd => not_mem_of_deeper r hd m
  refine ⟨bs, ?_, k, m⟩
  rcases h2 with ⟨hc, hd⟩ | ⟨hc, hd⟩
  · exact key (d := .list ds) (.list h1 hc hd (by simpa using r)) (by simp only [PyData.depth]; omega)
  · exact key (d := .tuple ds) (.tuple h1 hc hd (by simpa using r)) (by simp only [PyData.depth]; omega)
theorem Shws.list {us : List Value} {ds : List PyData} (b : Shws X s us ds) {a : Addr} {o : Obj} {n : Nat} (h1 : s.heap.get? a = some o) (hc : o.cls = .type "list") (hd : o.data = .seq us.toArray n) : Shw X s (.ref a) (.list ds) := by
  obtain ⟨bs, na, k, m⟩ := b.top h1 (.inl ⟨hc, hd⟩)
  obtain ⟨_, as, r, _, _⟩ := b.ex
  have rd : Reads s.heap (.ref a) (.list ds) (a :: as) := .list h1 hc hd (by simpa using r)
  refine ⟨a :: bs, _, rd, ReadAtMost.cons rd (by simp only [PyData.depth]; omega) m, ?_⟩
  simp only [PyData.depth, PyData.shown]
  cases us with
  | nil =>
    cases r
    simp only [PyData.shownAll, listText_nil]
    exact ReprK.listEmpty h1 hc hd
  | cons x l => exact ReprK.list h1 hc hd na (by simpa using k.length_eq) (fun i y e => k.item i y (by simpa using e))
theorem Shws.tuple {us : List Value} {ds : List PyData} (b : Shws X s us ds) {a : Addr} {o : Obj} {n : Nat} (h1 : s.heap.get? a = some o) (hc : o.cls = .type "tuple") (hd : o.data = .seq us.toArray n) : Shw X s (.ref a) (.tuple ds) := by
  obtain ⟨bs, na, k, m⟩ := b.top h1 (.inr ⟨hc, hd⟩)
  obtain ⟨_, as, r, _, _⟩ := b.ex
  have rd : Reads s.heap (.ref a) (.tuple ds) as := .tuple h1 hc hd (by simpa using r)
  refine ⟨a :: bs, _, rd, ReadAtMost.cons rd (by simp only [PyData.depth]; omega) m, ?_⟩
  simp only [PyData.depth, PyData.shown]
  exact ReprK.tuple h1 hc hd na (by simpa using k)
end
structure FnG (P : Program) (w : World) (K : PySem.W.Frag) (mg : Str → Option Value) (base : Heap) (k : Nat) (f : Addr) (fd : FuncData) (ps : List Str) (sp : Sp) : Prop where
  len : ∀ vs H Q E, sp vs H Q E → vs.length = ps.length
  go : ∀ (A : Around) (outer : List Env) (s : Shared) (H : Hp) (args : Args) (us : List Value) (vs : List V) (Q : VK) (E : XK), A.guards = some [] → Room k A → Env0 P w K mg base A outer s H → BindsTo s fd args (ps.zip us) → Vals vs us →
    sp vs H Q E → codeAny (model P w) A (.call (.ref f) args) (CR (L2.CX P w) outer P w H s Q E) s
theorem FnG.of {P : Program} {w : World} {K : PySem.W.Frag} {mg : Str → Option Value} {base : Heap} {k : Nat} {f : Addr} {fd : FuncData} {ps : List Str} {sp : Sp} (F : FnOk P w K mg base (L2.CX P w) k f fd ps sp) : FnG P w K mg base k f fd ps sp :=
  ⟨F.len, fun A outer s H args us vs Q E _ hr e0 hb r h => F.run A outer s H args us vs Q E hr e0 hb r h⟩
structure DefG (P : Program) (w : World) (K : PySem.W.Frag) (mg : Str → Option Value) (base : Heap) (T : List (Addr × Str)) (x : Str) (k : Nat) (ps : List Str) (F : Fn) : Prop where
  ex : ∃ (f : Addr) (fd : FuncData), mg x = some (.ref f) ∧ PySem.W.keepIn K (.ref f) = true ∧ Binds K fd ps [] ∧ FnG P w K mg base k f fd ps (spec K T F) ∧ ∃ oc od osl, K.lookup f = some ⟨oc, od, .func fd, osl⟩
section
variable {X : Cx} {T : List (Addr × Str)} {E : XK} {k : Nat}
theorem run_fnG {pins : List (Addr × Obj)} {σ : L2.St} {H : Hp} {s : Shared} {Q : VK} {us : List Value} {vs : List V} {f : Addr} {fd : FuncData} {ps : List Str} {sp : Sp} (F : FnG X.prog X.w X.K X.mg X.base k f fd ps sp) (gd : X.A.guards = some []) (hr : Room k X.A) (hb : Binds X.K fd ps [])
    (hx : Passes (L2.CX X.prog X.w) X E) (I : Inv X pins σ H s) (r : Vals vs us) (h : sp vs H Q E) : wpAny (model X.prog X.w) X.A (call (.ref f) us) (EP X pins σ Q) X.xe s := by
  have hl : us.length = ps.length := r.length.symm.trans (F.len _ _ _ _ h)
  have hbi := hb s us I.kIn (by rw [List.append_nil]; exact hl)
  rw [List.append_nil] at hbi
  refine wpAny_call (codeAny_mono (F.go X.A X.stack s H ⟨us, []⟩ us vs Q E gd hr I.env0 hbi r h) fun z s' hq => ?_)
  rcases z with e | fl
  · exact hx pins σ H s e s' I hq
  · cases fl <;> first | exact I.after hq | exact False.elim hq
theorem je_callG {x : Str} {ps : List Str} {F : Fn} {e : Expr} {es : List Expr} {a : W (List D)} {p pos : Pos} {j : Nat} (B : Bd X E k) (gd : X.A.guards = some []) (G : DefG X.prog X.w X.K X.mg X.base T x j ps F) (ha : JA T X E (e :: es) a) (hj : j ≤ k := by decide) (hg : Gl X x := by rfl)
    (hdb : (x == ("__debug__" : Str)) = false := by decide) (he : starEach (e :: es) X.env = (false, eval e X.env) :: starEach es X.env := by rfl) (hpl : (backTo pos (starEach es X.env)).any (·.1) = false := by rfl) : JE T X E (.Call (.Name x p) (e :: es) [] pos) (wCall F a) := by
  obtain ⟨f, fd, g1, g2, g3, g4, _⟩ := G.ex
  have key : PE X (.Call (.Name x p) (e :: es) [] pos) (tCall (spec X.K T F) [] E (lift X.K T (rA X.K) E a)) := ⟨fun pins s σ H Q I h => by
    refine wpAny_Call_Name_kw (ld_glob I hg g1 ?_ hdb)
    refine PySem.W.callWith_K (h₀ := X.base) I.ok.mod.kin g2 (thn (ha.run pos pins s σ H _ I h) fun us s1 ⟨vs, H1, I1, r, q⟩ => ⟨I1.kIn, ?_⟩) he hpl
    have q : spec X.K T F (vs ++ []) H1 Q E := q
    rw [List.append_nil] at q
    exact run_fnG g4 gd (B.room.mono hj) g3 B.pass I1 r q⟩
  exact peI key fun σ H Q h => lift_call h
end
end Pd

namespace Pd
open PySem PySem.Spec PyProof.Rows L2 LamX PySem.W
structure ExF (K : Frag) (C : Addr) (B i newId : String) (bmB : List Value) (f : Str) : Prop where
  q : excInitIn K C bmB newId = true
  k : keepIn K (.ref C) = true
  b : subIn K (.ref C) (.type "BaseException") = some true
  t : typeIn K (.ref C) = some (.type "type")
  sa : findIn K (.ref C) "__setattr__" = some (some (.builtin "object.__setattr__"))
  ov : excOver K C bmB = true
  tk : takerIn K C f = some none
  hd : hasDictIn K C = true
  su : ks_superIn K C C "__init__" = some (some (.builtin i))
  sb : subIn K (.ref C) (.type B) = some true
  mr : mroIn K C (.ref C) = some true
  op : nsIn K cStatics "thirdparty.any" = some none
section
variable {prog : Program} {w : World} {A : Around} {R : Result → Shared → Prop} {hp : Heap} {g : Array GenState} {d : Drawn} {t : Nat} {os : OsState} {K : Frag} {C : Addr} {B i newId : String} {bmB : List Value} {f : Str}
theorem exv_store {x t0 : Addr} {tk : Tok} {v : Value} (SF : StoreFacts B bmB "object.__setattr__" "object") (c : ExF K C B i newId bmB f) (X : K.In hp) (hx : hp.get? x = some (excObj C t0 none .none))
    (hq : ∀ h' tk' dx, (∀ b o, b ≠ x → hp.get? b = some o → h'.get? b = some o) → hp.objs.size ≤ dx → h'.get? x = some (excObj C t0 (some dx) .none) → h'.Ns1 dx (fun y => if y = f then some v else none) → R (.ok (.ret .none)) ⟨h', g, d, tk', os⟩) :
    codeAny (model prog w) A (.call (.builtin "object.__setattr__") ⟨[.ref x, .str f tk, v], []⟩) R ⟨hp, g, d, t, os⟩ := by
  refine osa_openX (s := ⟨hp, g, d, t, os⟩) (od := none) SF X ⟨hx, rfl, rfl, trivial⟩ c.ov c.tk fun bb => ?_
  obtain ⟨cd, hc, hd'⟩ := any_some c.hd
  have lx : x < hp.objs.size := Heap.lt_size hx
  refine wpAny_bind (wpAny_pure (wpAny_bind (instanceDict_exc (s := ⟨hp, g, d, t, os⟩) hx (looks_clsIn X hc) hd' ?_)))
  have hx1 : (hp.push (dictOf [] 0)).get? x = some (excObj C t0 none .none) := Heap.get?_push_of_some _ hx
  refine HandSPX.store_in_new ⟨_, #[], _, (Heap.get?_update_ne _ _ _ _ (Nat.ne_of_gt lx)).trans (Heap.get?_push_at rfl rfl), rfl, fun e he => absurd he (by simp), fun _ => rfl⟩ fun h' tk' n1 sb => ?_
  refine hq h' tk' hp.objs.size (fun b o hb ho => ?_) (Nat.le_refl _) ?_ n1
  · rw [sb.2 b (Nat.ne_of_lt (Heap.lt_size ho)), Heap.get?_update_ne _ _ _ _ hb]
    exact Heap.get?_push_of_some _ ho
  · rw [sb.2 x (Nat.ne_of_lt lx)]
    exact Heap.get?_update_self _ hx1 rfl
structure ExI (K : Frag) (C fI : Addr) (file : Str) (qual : Str) (st : Stmt) : Prop where
  ex : ∃ oc od osl kV doc pm an cda ct cc, K.lookup fI = some ⟨oc, od, .func (ksFn "__init__" qual (defArgs st) (defBody st) (defScope st) .none kV doc pm an (.ref cda) ct cc), osl⟩ ∧ codeIn K (.ref cda) qual = true ∧
    (∃ ccl cdd vs ccs tf, K.lookup cda = some ⟨ccl, cdd, .fields vs, ccs⟩ ∧ vs[2]? = some (.str file tf)) ∧ ∃ cl cld csl, K.lookup cc = some ⟨cl, cld, .cell (some (.ref C)), csl⟩
def Msg (me : Expr) (pv : Str) (st : Stmt) (G : V → Prop) : Prop :=
  ∀ {prog : Program} {w : World} {A : Around} {E : Value → Shared → Prop} {qual : Str} {L a cc : Addr} {cd : Value} {h : Heap} {g : Array GenState} {d : Drawn} {t : Nat} {os : OsState} {m : Str → Option Value} {v : V} {u : Value} {Q : Value → Shared → Prop},
    h.Ns L m → m pv = some u → RelV v u → G v → (∀ x t1, Q x ⟨h, g, d, t1, os⟩) → wpAny (model prog w) A (eval me (ksEnv qual (defScope st) L a cd cc)) Q E ⟨h, g, d, t, os⟩
theorem msg_text {m : Str} {j : Nat} {p : Pos} {pv : Str} {st : Stmt} : Msg (.Constant (.str m) j p) pv st fun _ => True := fun _ _ _ _ k => Calls.Constant_str (k _ _)
def intG (v : V) : Prop := ∃ i : Int, v = .int i ∧ i.natAbs.log2 < 1920
theorem msg_int {m : Str} {j k : Nat} {p q r z : Pos} {pv : Str} {st : Stmt} (s5 : (defScope st).kind = .function) (s4 : (defScope st).names.lookup pv = some .local) (nd : (pv == ("__debug__" : Str)) = false) (hm : m.length = k) (hk : Nat.ble k 1000 = true) :
    Msg (.JoinedStr [.Constant (.str m) j p, .FormattedValue (.Name pv q) (-1) none r] z) pv st intG := by
  intro prog w A E qual L a cc cd h g d t os mm v u Q ns hu rv hv kk
  obtain ⟨i, rfl, hi⟩ := hv
  obtain ⟨ti, rfl⟩ := rv
  have hz : m.length ≤ 1000 := hm ▸ Nat.le_of_ble_eq_true hk
  have hi2 : (Str.ofString (toString i)).length ≤ 2000 := by
    have e := int_text_length_le (k := 1920) (by decide) hi
    rw [PySem.ofString_length]
    omega
  have l0 : (Str.empty ++ m).length = m.length := by
    rw [strLen_append]
    exact Nat.zero_add _
  refine wpAny_JoinedStr ?_
  show Joins _ _ _ [eval (.Constant (.str m) j p) _, eval (.FormattedValue (.Name pv q) (-1) none r) _] _ _ _
  refine Calls.Constant_str ⟨_, _, rfl, ?_, ?_⟩
  · rw [l0, sizeLine_eq]
    omega
  refine wpAny_FormattedValue_plain (wpAny_Name (wpAny_loadName_local s5 s4 ns hu ?_) nd)
  have hl : (Str.empty ++ m ++ Str.ofString (toString i)).length ≤ sizeLine := by
    rw [strLen_append, l0, sizeLine_eq]
    omega
  exact wpAny_formatField_int hi ⟨_, _, rfl, hl, hl, kk _ _⟩
abbrev exCall (me : Expr) (p0 p1 p2 p4 : Pos) : Expr := .Call (.Attribute (.Call (.Name "super" p0) [] [] p1) "__init__" p2) [me] [] p4
structure ExB (pv f : Str) (st : Stmt) (me : Expr) (G : V → Prop) (p0 p1 p2 p4 p5 p6 p7 p8 p9 : Pos) : Prop where
  body : defBody st = [.Expr (exCall me p0 p1 p2 p4) p5, .Assign [.Attribute (.Name "self" p6) f p7] (.Name pv p8) p9]
  par : (((defArgs st).posonlyargs ++ (defArgs st).args).head?).map (·.arg) = some "self"
  s1 : (defScope st).names.lookup ("super" : Str) = some .globalImplicit
  s2 : (defScope st).names.lookup ("__class__" : Str) = some .free
  s3 : (defScope st).names.lookup ("self" : Str) = some .local
  s4 : (defScope st).names.lookup pv = some .local
  s5 : (defScope st).kind = .function
  s6 : ∀ x ∈ (defScope st).names, x.2 ≠ .cell
  s7 : (defScope st).isCoroutine = false
  s8 : (defScope st).isGenerator = false
  ne : (("self" : Str) == pv) = false
  nd : (pv == ("__debug__" : Str)) = false
  ia : ∀ (qual : Str) (L a : Addr) (cd : Value) (cc : Addr), interactive (ksEnv qual (defScope st) L a cd cc) = false
  sw1 : ∀ (qual : Str) (L a : Addr) (cd : Value) (cc : Addr), swapsWith (exCall me p0 p1 p2 p4) none p5.line (ksEnv qual (defScope st) L a cd cc) = pure false
  sw2 : ∀ (qual : Str) (L a : Addr) (cd : Value) (cc : Addr), swapsWith (.Name pv p8) (some (.Attribute (.Name "self" p6) f p7)) p9.line (ksEnv qual (defScope st) L a cd cc) = pure false
  ev : ∀ (qual : Str) (L a : Addr) (cd : Value) (cc : Addr), ∃ pl : Sem Bool, eval (exCall me p0 p1 p2 p4) (ksEnv qual (defScope st) L a cd cc) = (do
      let ov ← attributeBase (.Call (.Name "super" p0) [] [] p1) "__init__" (ksEnv qual (defScope st) L a cd cc) (eval (.Call (.Name "super" p0) [] [] p1) (ksEnv qual (defScope st) L a cd cc))
      standAt p2.atName
      let (f, first) ← holding [ov] (getMethod ov "__init__" pl)
      callWith p4 f first (backTo p4 (starEach [me] (ksEnv qual (defScope st) L a cd cc))) [])
  se : ∀ env : Env, starEach [me] env = (false, eval me env) :: starEach [] env
  bind : ∀ (qual : Str) (kV doc pm : Value) (an : Option Addr) (cdv ct : Value) (cc : Addr) (a u : Value), bindArgs (ksFn "__init__" qual (defArgs st) (defBody st) (defScope st) .none kV doc pm an cdv ct cc) ⟨[a, u], []⟩ = pure [(("self" : Str), a), (pv, u)]
  msg : Msg me pv st G
theorem exv_init {e t0 fI : Addr} {v : V} {u : Value} {h2 : Heap} {mg mb : Str → Option Value} {pv qual file : Str} {st : Stmt} {me : Expr} {G0 : V → Prop} {p0 p1 p2 p4 p5 p6 p7 p8 p9 : Pos} (FB : ExcBaseFacts B newId i bmB) (KF : KxsFacts B i) (SF : StoreFacts B bmB "object.__setattr__" "object") (c : ExF K C B i newId bmB f) (ci : ExI K C fI file qual st) (cb : ExB pv f st me G0 p0 p1 p2 p4 p5 p6 p7 p8 p9) (rv : RelV v u) (gv : G0 v)
    (X0 : K.In hp) (k2 : ∀ b o, hp.get? b = some o → h2.get? b = some o) (he : h2.get? e = some (excObj C t0 none .none)) (hen : hp.get? e = none) (hsz : hp.objs.size ≤ h2.objs.size) (lim : hp.NoLimit)
    (G : hp.Ns mainGlobals mg) (hgm : mg "super" = none) (Bt : hp.Ns builtinsNs mb) (hbb : mb "super" = some (.type "super")) (hfile : ((prog.main.file : Str) == file) = true) (htop : (prog.main.scope.names.lookup ("super" : Str)).isSome = false) (room : A.depth < recursionLimit)
    (hq : ∀ h' tk' dx t1, (∀ b o, hp.get? b = some o → h'.get? b = some o) → hp.objs.size ≤ dx → dx ≠ e → h'.get? e = some (excObj C t1 (some dx) .none) → h'.Ns1 dx (fun y => if y = f then some u else none) → R (.ok (.ret .none)) ⟨h', g, d, tk', os⟩) :
    codeAny (model prog w) A (.call (.ref fI) ⟨[.ref e, u], []⟩) R ⟨h2, g, d, t, os⟩ := by
  obtain ⟨oc, od, osl, kV, doc, pm, an, cda, ct, cc, lk, hcd, ⟨ccl, cdd, vs, ccs, tf, lc, hvs⟩, cl, cld, csl, lcell⟩ := ci.ex
  have hbody := cb.body
  obtain ⟨ar, har, hself⟩ := Option.map_eq_some_iff.mp cb.par
  refine ks_codeAny_call_defAt (s := ⟨h2, g, d, t, os⟩) room (k2 _ _ (X0 _ _ lk)) rfl (lim.keeps k2) (codeRec_of (X0.keeps k2) hcd) rfl (BindsTo.of_eq (cb.bind _ _ _ _ _ _ _ _ _ _)) cb.s6 (fun x hx => ?_) (fun h1 hns hk => ?_) cb.s7 cb.s8 cb.s5
  · rcases List.mem_cons.mp hx with rfl | hx
    · exact cb.s3
    · rcases List.mem_cons.mp hx with rfl | hx
      · exact cb.s4
      · cases hx
  show _root_.PySem.wpAt (model prog w) _ (.func (defBody st) (ksEnv qual (defScope st) h2.objs.size fI (.ref cda) cc)) (execs (defBody st) (ksEnv qual (defScope st) h2.objs.size fI (.ref cda) cc)) _ _ _
  have F1 : Fr hp h2.objs.size h1 (fun y => [(("self" : Str), Value.ref e), (pv, u)].reverse.lookup y) := ⟨hns, fun b o q => hk b o (k2 b o q), hsz⟩
  have N1 : News hp h2.objs.size h1 [(e, excObj C t0 none .none)] := fun p hp' => by
    rcases List.mem_cons.mp hp' with rfl | hp'
    · exact ⟨hk _ _ he, Nat.ne_of_lt (Heap.lt_size he), hen⟩
    · cases hp'
  have mself : [(("self" : Str), Value.ref e), (pv, u)].reverse.lookup ("self" : Str) = some (Value.ref e) := by
    simp only [List.reverse_cons, List.reverse_nil, List.nil_append, List.cons_append, List.lookup, cb.ne]
    rfl
  have mpv : [(("self" : Str), Value.ref e), (pv, u)].reverse.lookup pv = some u := by simp [List.lookup]
  have X1 : ∀ {h : Heap} {L : Addr} {m : Str → Option Value}, Fr hp L h m → K.In h := fun F => X0.keeps F.keep
  obtain ⟨cdC, hcC⟩ : ∃ cd, clsIn K C = some cd := by
    cases q : clsIn K C with
    | none =>
      have z := c.mr
      unfold mroIn at z
      rw [q] at z
      cases z
    | some cd => exact ⟨cd, rfl⟩
  obtain ⟨pl, hev⟩ := cb.ev qual h2.objs.size fI (.ref cda) cc
  rw [show execs (defBody st) (ksEnv qual (defScope st) h2.objs.size fI (.ref cda) cc) = execs [.Expr (exCall me p0 p1 p2 p4) p5, .Assign [.Attribute (.Name "self" p6) f p7] (.Name pv p8) p9] (ksEnv qual (defScope st) h2.objs.size fI (.ref cda) cc) from by rw [hbody]]
  refine ks_wpAt_execs_cons (ks_wpAt_Expr_any (ks_wpAt_MethodCall (pl := pl) ?_ hev) (cb.ia _ _ _ _ _) (cb.sw1 _ _ _ _ _))
  obtain ⟨oD, hD1, hD2⟩ : ∃ oD, h1.get? C = some oD ∧ oD.data = .cls cdC := by
    unfold clsIn at hcC
    split at hcC
    · rename_i ho
      cases hcC
      exact ⟨_, X1 F1 _ _ ho, rfl⟩
    · cases hcC
  have I1 : InstAt h1 e (excObj C t0 none .none) C none := ⟨(N1 _ List.mem_cons_self).1, rfl, rfl, trivial⟩
  refine ks_wpAt_super_base (env := ksEnv qual (defScope st) h2.objs.size fI (.ref cda) cc) cb.s1 cb.s2 (by decide) rfl (X1 F1 _ _ lk) rfl har rfl (X1 F1 _ _ lc) rfl hvs hfile htop ?_
  refine ks_loadName_global cb.s5 cb.s1 (Calls.loadGlobal_builtin (env := ksEnv qual (defScope st) h2.objs.size fI (.ref cda) cc) (G.keeps F1.keep) hgm (Bt.keeps F1.keep) hbb ⟨rfl, ?_⟩)
  refine wpAny_loadName_free cb.s5 cb.s2 rfl ⟨_, X1 F1 _ _ lcell, rfl⟩ ?_
  rw [hself]
  refine wpAny_loadName_local cb.s5 cb.s3 F1.ns mself ?_
  refine ks_wpAny_isType_cls hD1 hD2 ⟨rfl, ?_⟩
  refine ks_wpAny_call_super hD1 hD2 I1.at_ I1.cls (fun c e => by cases e) (looks_mroIn (X1 F1) c.mr) (fun h3 e3 k3 => ?_)
  obtain ⟨F3, N3, l3⟩ := ks_newsPush (s := ⟨h1, g, d, t + 2, os⟩) F1 N1 rfl e3 k3
  refine kxs_method (s := ⟨h3, g, d, t + 2, os⟩) KF F3 X0 N3 List.mem_cons_self (InstAt.of_exc0 N3 (.tail _ List.mem_cons_self)) c.op c.su c.sb (by decide) fun q h4 F4 N4 l4 => ?_
  refine kxs_callWith1 N4 List.mem_cons_self ?_ (cb.se _)
  rw [cb.se]
  show wpAny _ _ (spliced ((false, eval me (ksEnv qual (defScope st) h2.objs.size fI (.ref cda) cc)) :: backTo p4 (starEach [] (ksEnv qual (defScope st) h2.objs.size fI (.ref cda) cc)))) _ _ _
  refine Calls.spliced_cons (cb.msg F4.ns mpv rv gv fun x t1 => ?_)
  refine Calls.spliced_nil ⟨kxs_at N4 List.mem_cons_self, ?_⟩
  have ne1 : ∀ p ∈ [(e, excObj C t0 none .none)], p.1 < h1.objs.size := l3
  have lse : e < h1.objs.size := ne1 _ List.mem_cons_self
  have lq : h1.objs.size < q := l4 _ List.mem_cons_self
  have U : UpdF e (excObj C t0 none .none) [(q, kxs_mw i e), (h1.objs.size, ks_superObj C e C), (e, excObj C t0 none .none)] (fun o' => (q, kxs_mw i e) :: (h1.objs.size, ks_superObj C e C) :: (e, o') :: []) :=
    .tail (Nat.ne_of_gt (Nat.lt_trans lse lq)) (.tail (Nat.ne_of_gt lse) (.head fun p hp' => by cases hp'))
  refine kxs_call (s := ⟨h4, g, d, t1, os⟩) F4 X0 N4 FB c.q List.mem_cons_self U (by show 1 ≤ sizeLine; decide) fun t1 h5 F5 N5 l5 => ?_
  show _root_.PySem.wpAt _ _ _ (execs [.Assign [.Attribute (.Name "self" p6) f p7] (.Name pv p8) p9] (ksEnv qual (defScope st) h2.objs.size fI (.ref cda) cc)) _ _ _
  refine ks_wpAt_execs_cons (ks_wpAt_Assign_Attr ?_ (cb.sw2 _ _ _ _ _))
  refine wpAt_of_wpAny (wpAny_Name (wpAny_loadName_local cb.s5 cb.s4 F5.ns mpv ?_) cb.nd)
  refine wpAny_Name (wpAny_loadName_local cb.s5 cb.s3 F5.ns mself ?_) (by decide)
  have he5 : h5.get? e = some (excObj C t1 none .none) := (N5 (e, excObj C t1 none .none) (by simp)).1
  refine set_plain (od := none) (X1 F5) ⟨he5, rfl, rfl, trivial⟩ c.sa (exv_store SF c (X1 F5) he5 fun h6 tk6 dx k6 ld hx6 n6 => ?_)
  refine wpAt_of_wpAny (wpAny_execs_nil ?_)
  refine hq h6 tk6 dx t1 (fun b o z => k6 b o (fun y => by rw [y, hen] at z; cases z) (F5.keep b o z)) ?_ ?_ hx6 n6
  · exact Nat.le_trans (Nat.le_trans hsz (Nat.le_of_lt F5.ns.lt)) ld
  · exact fun z => Nat.lt_irrefl _ (Nat.lt_of_lt_of_le (Heap.lt_size he5) (z ▸ ld))
end
section
variable {X : Cx} {T : List (Addr × Str)} {E : XK} {k : Nat} {C : Addr} {B i newId : String} {bmB : List Value} {f : Str}
theorem pmk_exv {x : Str} {e : Expr} {te : TE} {fI : Addr} {pv qual file : Str} {st : Stmt} {me : Expr} {G0 : V → Prop} {p0 p1 p2 p4 p5 p6 p7 p8 p9 p pos : Pos} (FB : ExcBaseFacts B newId i bmB) (KF : KxsFacts B i) (SF : StoreFacts B bmB "object.__setattr__" "object") (c : ExF X.K C B i newId bmB f) (ci : ExI X.K C fI file qual st)
    (cb : ExB pv f st me G0 p0 p1 p2 p4 p5 p6 p7 p8 p9) (iC : findIn X.K (.ref C) "__init__" = some (some (.ref fI))) (tI : typeIn X.K (.ref fI) = some (.type "function")) (hfile : ((X.prog.main.file : Str) == file) = true) (htop : (X.prog.main.scope.names.lookup ("super" : Str)).isSome = false)
    (hsup : X.mg "super" = none) (hm : X.mg x = some (.ref C)) (room : Room (k + 1) X.A) (he : PE X e te) (hg : Gl X x) (hdb : (x == ("__debug__" : Str)) = false) (hs : starEach [e] X.env = (false, eval e X.env) :: starEach [] X.env) :
    PMk X (.Call (.Name x p) [e] [] pos) (fun σ H Q => te σ H fun v H1 => G0 v ∧ ∀ dx, H1 dx = none → Q (.ref C) (some dx) (upd H1 dx (.xd [(f, v)]))) := by
  intro pins s σ H Q I h
  apply wpAny_Call_Name_kw
  apply ld_glob I hg hm _ hdb
  apply callWith_K I.ok.mod.kin c.k _ hs rfl
  rw [hs]
  apply Calls.spliced_cons
  apply thn (he.run pins s σ H _ I h)
  rintro u s1 ⟨v, H1, I1, r1, gv, q1⟩
  apply Calls.spliced_nil
  refine ⟨I1.kIn, ?_⟩
  obtain ⟨nm, N, qn, bs, bm, hdct, sn, sub, ab, col, dd, k0, k1, k2, k3, k5, hC, hT⟩ := excInit_of I1.kIn c.q
  obtain ⟨mb, hbn, hbb⟩ := I1.ok.mod.blt
  have hA := room.make C [u] []
  have I1' := I1
  obtain ⟨hp, g, dr, tk, os⟩ := s1
  refine wpAny_call (HandSPX.call_own FB hT hC (looks_findIn I1.kIn iC) (fun self => bind_fn I1.kIn self tI) (by show 1 ≤ sizeLine; decide) ?_)
  refine exv_init (hp := hp) (t0 := hp.objs.size) FB KF SF c ci cb r1 gv I1.kIn (fun b o z => Heap.get?_push_of_some _ (Heap.get?_push_of_some _ z)) (by heap_get) ?_ ?_ I1.nolimit (I1.mod.glob.keeps I1.bk) hsup (hbn.keeps I1.bk) ?_ hfile htop hA.depth fun h' tk' dx t1 kp ld nd hx hn => ?_
  · cases z : hp.get? (hp.objs.size + 1) with
    | none => rfl
    | some o => exact absurd (Heap.lt_size z) (Nat.not_lt.mpr (Nat.le_succ _))
  · rw [Heap.size_push, Heap.size_push]
    omega
  · rw [hbb _ (by decide)]
    decide +kernel
  · obtain ⟨G, g1, g2⟩ := restrict h' fun b => decide (b ≠ hp.objs.size + 1)
    have gk : ∀ b, b ≠ hp.objs.size + 1 → G.get? b = h'.get? b := fun b hb => g1 b (decide_eq_true hb)
    have ge : G.get? (hp.objs.size + 1) = none := g2 _ (by simp)
    have hd : hp.get? dx = none := by
      cases z : hp.get? dx with
      | none => rfl
      | some o => exact absurd (Heap.lt_size z) (Nat.not_lt.mpr ld)
    have hn1 : H1 dx = none := I1.hok.fresh ld
    have hna : H1 (hp.objs.size + 1) = none := I1.hok.fresh (Nat.le_succ _)
    have J := I1.laidN (h' := G) (t' := tk') (a := dx) (o := .xd [(f, v)]) (fun b o z => by
      rw [gk b (Nat.ne_of_lt (Nat.lt_succ_of_lt (Heap.lt_size z)))]
      exact kp b o z) hd hn1 ⟨_, hn.at fun o z => (gk dx nd).trans z, relO_put (fs := []) r1 fun _ => True.intro⟩
    refine ⟨rfl, ⟨hp.objs.size + 1, _, _, _, _, .ref C, some dx, rfl, J, fun b o z => ?_, ge, hx, ⟨rfl, rfl⟩, rfl, rfl, ?_, rfl, I1.bare, raises_own c.b c.t, q1 dx hn1⟩⟩
    · by_cases hb : b = hp.objs.size + 1
      · have z' : G.get? b = some o := z
        rw [hb, ge] at z'
        cases z'
      · exact (gk b hb).symm.trans z
    · rw [upd_ne (Ne.symm nd)]
      exact hna
def sRaiseV (C f : Str) (e : W D) : WS := fun pe env => e env (fun d _ => pe.ex ⟨C, [(f, d)]⟩) pe.ex
def sRaiseI (C f : Str) (e : W D) : WS := fun pe env => e env (fun d _ => (∃ i : Int, d = .int i ∧ i.natAbs.log2 < 1920) ∧ pe.ex ⟨C, [(f, d)]⟩) pe.ex
structure ExVG (P : Program) (K : Frag) (mg : Str → Option Value) (C f : Str) (G : V → Prop) : Prop where
  ex : ∃ B i newId bmB fI file qual pv st me p0 p1 p2 p4 p5 p6 p7 p8 p9, ExcBaseFacts B newId i bmB ∧ KxsFacts B i ∧ StoreFacts B bmB "object.__setattr__" "object" ∧ ExF K (He.ga K C) B i newId bmB f ∧ ExI K (He.ga K C) fI file qual st ∧ ExB pv f st me G p0 p1 p2 p4 p5 p6 p7 p8 p9 ∧
    findIn K (.ref (He.ga K C)) "__init__" = some (some (.ref fI)) ∧ typeIn K (.ref fI) = some (.type "function") ∧ ((P.main.file : Str) == file) = true
  top : (P.main.scope.names.lookup ("super" : Str)).isSome = false
  sup : mg "super" = none
  g : mg C = some (.ref (He.ga K C))
abbrev ExV (P : Program) (K : Frag) (mg : Str → Option Value) (C f : Str) : Prop := ExVG P K mg C f fun _ => True
abbrev ExVI (P : Program) (K : Frag) (mg : Str → Option Value) (C f : Str) : Prop := ExVG P K mg C f intG
theorem js_raiseG {C : Str} {e : Expr} {w : W D} {p pos pos' : Pos} {G0 : V → Prop} {GD : D → Prop} (hG : ∀ {d : D} {wd : Wd} {v : V}, GD d → Rep X.K wd v d → G0 v) (B : Bd X E k) (tk : Takes X (fun cls d _ H => E cls d H)) (c : ExVG X.prog X.K X.mg C f G0) (he : JE T X E e w) (hk : 1 ≤ k) (hg : Gl X C) (hd : (C == ("__debug__" : Str)) = false)
    (hs : starEach [e] X.env = (false, eval e X.env) :: starEach [] X.env) : JS T X E (.Raise (some (.Call (.Name C p) [e] [] pos)) none pos') (fun pe env => w env (fun d _ => GD d ∧ pe.ex ⟨C, [(f, d)]⟩) pe.ex) := by
  obtain ⟨Bs, i, newId, bmB, fI, file, qual, pv, st, me, p0, p1, p2, p4, p5, p6, p7, p8, p9, c1, c2, c3, c4, c5, c6, c7, c8, c9⟩ := c.ex
  refine psI (ps_raise B.calm tk (pmk_exv (k := 0) c1 c2 c3 c4 c5 c6 c7 c8 c9 c.top c.sup c.g (B.room.mono hk) he hg hd hs)) fun D σ H ⟨cc, wd, env, pe, r, h, o⟩ => ?_
  refine ⟨cc, wd, env, _, _, r, h, o.ex, fun d env' hx v wd1 H1 le1 r1 rp1 => ⟨hG hx.1 rp1, fun dx hdx => ?_⟩⟩
  have gr : Grow wd1 H1 (wd1.add dx (.xd [(f, v)])) (upd H1 dx (.xd [(f, v)])) := Grow.one hdx (fun _ z => nomatch z) trivial
  have r2 := r1.grow gr
  refine o.ex _ hx.2 _ _ _ _ r2.ord r2.good r2.keep ⟨rfl, .inr ⟨dx, [(f, v)], rfl, upd_same .., rfl, .cons (rp1.mono (gr.le r1.good)) .nil⟩⟩
theorem js_raiseV {C : Str} {e : Expr} {w : W D} {p pos pos' : Pos} (B : Bd X E k) (tk : Takes X (fun cls d _ H => E cls d H)) (c : ExV X.prog X.K X.mg C f) (he : JE T X E e w) (hk : 1 ≤ k := by decide) (hg : Gl X C := by rfl) (hd : (C == ("__debug__" : Str)) = false := by decide)
    (hs : starEach [e] X.env = (false, eval e X.env) :: starEach [] X.env := by rfl) : JS T X E (.Raise (some (.Call (.Name C p) [e] [] pos)) none pos') (sRaiseV C f w) := by
  have z := js_raiseG (GD := fun _ => True) (pos := pos) (pos' := pos') (p := p) (fun _ _ => trivial) B tk c he hk hg hd hs
  simp only [true_and] at z
  exact z
theorem js_raiseI {C : Str} {e : Expr} {w : W D} {p pos pos' : Pos} (B : Bd X E k) (tk : Takes X (fun cls d _ H => E cls d H)) (c : ExVI X.prog X.K X.mg C f) (he : JE T X E e w) (hk : 1 ≤ k := by decide) (hg : Gl X C := by rfl) (hd : (C == ("__debug__" : Str)) = false := by decide)
    (hs : starEach [e] X.env = (false, eval e X.env) :: starEach [] X.env := by rfl) : JS T X E (.Raise (some (.Call (.Name C p) [e] [] pos)) none pos') (sRaiseI C f w) := by
  refine js_raiseG (fun hx r => ?_) B tk c he hk hg hd hs
  obtain ⟨i, rfl, hi⟩ := hx
  cases r
  exact ⟨i, rfl, hi⟩
end
end Pd

namespace Pd
open PySem PySem.Spec PyProof.Rows L2 LamX
theorem hasD_of {fa : List He.Fa} {fn : List He.DefD} {K : PySem.W.Frag} {h : Heap} {mg : Str → Option Value} (X : K.In h) (G : h.Ns mainGlobals mg) (c : He.SaysD fa fn K) {x : Str} {st : Stmt} (i j : Nat)
    (hi : fa[i]? = some (.glo x)) (hj : fn[j]? = some ⟨(x, none), x, x, defArgs st, defBody st, defScope st, [], []⟩) : HasD K mg x st := by
  obtain ⟨fd, F⟩ := c.def_ j hj
  exact ⟨He.ga K x, fd, F, He.glo_ok X G (c.fact i hi)⟩
theorem cx_no {P : Program} {w : World} {outer : List Env} {H : Hp} {s : Shared} {e : Value} {s' : Shared} (h : L2.CX P w outer H s (fun _ _ _ => False) e s') : False := by
  obtain ⟨_, _, _, _, _, _, _, _, _, _, _, _, z⟩ := h
  exact z
def propB (K : PySem.W.Frag) (C f : Str) : Bool := (decide (PySem.W.findIn K (.ref (He.ga K C)) f = some (some (.ref (He.ma K (He.ga K C) f)))) && decide (PySem.W.specialIn K (.ref (He.ma K (He.ga K C) f)) "__get__" = some (some (.builtin "property.__get__")))) && (decide (PySem.W.takesIn K (.ref (He.ma K (He.ga K C) f)) = some true) && (match PySem.W.recIn K (He.ma K (He.ga K C) f) "property" with
  | some (.ref _ :: _) => true
  | _ => false))
theorem propB_ok {K : PySem.W.Frag} {C f : Str} (h : propB K C f = true) : PropOf K (He.ga K C) f (He.ma K (He.ga K C) f) (He5.wf K (He.ga K C) "property" f) := by
  unfold propB at h
  rw [Bool.and_eq_true, Bool.and_eq_true, Bool.and_eq_true] at h
  obtain ⟨⟨h1, h2⟩, h3, h4⟩ := h
  refine ⟨of_decide_eq_true h1, of_decide_eq_true h2, of_decide_eq_true h3, ?_⟩
  unfold He5.wf
  split at h4
  · rename_i g r e
    exact ⟨r, by rw [e]⟩
  · cases h4
theorem hasA_of {K : PySem.W.Frag} {fa : List He.Fa} {fb : List He5.DefA} (c : He5.SaysA fa fb K) {a : PySem.W.Frag → Addr} {name qual : Str} {st : Stmt} (i : Nat) (h : fb[i]? = some ⟨a, name, qual, defArgs st, defBody st, defScope st, [], []⟩) : HasA K (a K) name qual st := c.def_ i h
theorem hasM_of {K : PySem.W.Frag} {fa : List He.Fa} {fn : List He.DefD} (c : He.SaysD fa fn K) {C m qual : Str} {st : Stmt} (i : Nat) (h : fn[i]? = some ⟨(C, some m), m, qual, defArgs st, defBody st, defScope st, [], []⟩) : HasA K (He.ma K (He.ga K C) m) m qual st := c.def_ i h
end Pd

namespace Pd
open PySem PySem.Spec PyProof.Rows L2 LamX
section
variable {P : Program} {w : World} {K : PySem.W.Frag} {mg mb : Str → Option Value} {k : Nat} {fa a : Addr} {cs : List (Addr × Addr)} {fd : FuncData} {x : Str} {sp : Sp} {s : Shared} {us : List Value}
structure Top0 (K : PySem.W.Frag) (mg mb : Str → Option Value) (cs : List (Addr × Addr)) (s : Shared) : Prop where
  kin : K.In s.heap
  glo : s.heap.Ns mainGlobals mg
  blt : s.heap.Ns builtinsNs mb
  bbb : ∀ y : Str, y ≠ "__name__" → mb y = bootBuiltins y
  lim : s.heap.NoLimit
  gen : s.gens = #[]
  tab : ∀ p ∈ cs, s.heap.get? p.2 = some { cls := .none, data := .fields #[] }
  out : ∀ p ∈ cs, K.lookup p.2 = none
  hdr : ∀ p ∈ cs, PySem.W.CodeHd s.heap p.1 p.2
  bmn : ∃ (bm : Addr) (ob : Obj), mg "__builtins__" = some (.ref bm) ∧ bm ≠ builtinsNs ∧ s.heap.get? bm = some ob ∧ ob.cls = .type "module" ∧ ob.dict = some builtinsNs ∧ ob.data = .plain
structure Start0 (K : PySem.W.Frag) (cs : List (Addr × Addr)) (a : Addr) (H : Hp) : Prop where
  t : ∀ p ∈ cs, H p.2 = some (.tbl #[])
  o : ∀ b u, H b = some u → (b ∈ cs.map (·.2) ∧ u = .tbl #[]) ∨ (b = a ∧ K.lookup a = none ∧ ∃ ob xs, u = .frz ob (.lst xs))
theorem left_behind {H G : Hp} {h' : Heap} (Z : Top0 K mg mb cs s) (S : Start0 K cs a H) (hok : HOk P w H s.heap) (un : Un (frs []) [] H G s.heap h') (ok : HOk P w G h') : OldK s.heap h' := by
  have table : ∀ p ∈ cs, ∃ more : Array Value, h'.get? p.2 = some { cls := .none, data := .fields more } := fun p hp => by
    obtain ⟨_, known⟩ := un.tbls p.2 #[] (S.t p hp)
    exact ⟨_, ok _ _ known⟩
  have other : ∀ b o, (¬ ∃ p ∈ cs, p.2 = b) → s.heap.get? b = some o → h'.get? b = some o := fun b o no e => by
    cases known : H b with
    | none => exact un.keep b o e known (by simp [frs]) (by simp)
    | some u =>
      rcases S.o b u known with ⟨hb, _⟩ | ⟨_, _, ob, xs, rfl⟩
      · exact (no (by simpa using hb)).elim
      · have before := (hok b _ known).1
        have after := (ok b _ (un.frzs b ob _ known)).1
        exact Option.some.inj (e.symm.trans before) ▸ after
  constructor
  · intro b o e
    by_cases is : ∃ p ∈ cs, p.2 = b
    · obtain ⟨p, hp, rfl⟩ := is
      obtain ⟨more, now⟩ := table p hp
      obtain rfl := Option.some.inj ((Z.tab p hp).symm.trans e)
      exact .inr (.inl ⟨((Z.hdr p hp).tab e).isCodeTable, rfl, #[], more, rfl, by simpa using now⟩)
    · exact .inl (other b o is e)
  · intro b o e
    by_cases is : ∃ p ∈ cs, p.2 = b
    · obtain ⟨p, hp, rfl⟩ := is
      obtain ⟨_, now⟩ := table p hp
      exact ⟨_, now⟩
    · exact ⟨o, other b o is e⟩
theorem core_callG (Z : Top0 K mg mb cs s) (ha : s.heap.get? a = some { cls := .type "list", data := .seq us.toArray }) (hr : Room k callerA) (F : ∀ base : Heap, K.In base → base.Ns mainGlobals mg → (∀ p ∈ cs, TabB base mg p.1 p.2) → FnG P w K mg base k fa fd [x] sp)
    (hbind : ∀ (s : Shared) (u : Value), BindsTo s fd ⟨[u], []⟩ [(x, u)]) {H : Hp} (S : Start0 K cs a H) (hok : HOk P w H s.heap) (hsp : sp [.ref a] H (fun v _ => v = .bl true) fun _ _ _ => False) :
    codeAny (model P w) callerA (.call (.ref fa) ⟨[.ref a], []⟩) (fun r s' => r = .ok (.ret (.bool true)) ∧ OldK s.heap s'.heap ∧ s'.os = s.os ∧ AllBare s'.gens) s := by
  have tabAt : ∀ {b : Addr}, b ∈ cs.map (·.2) → s.heap.get? b = some { cls := .none, data := .fields #[] } := fun {b} hb => by
    obtain ⟨p, hp, rfl⟩ := List.mem_map.mp hb
    exact Z.tab p hp
  have free : ∀ {b : Addr} {o : Obj}, s.heap.get? b = some o → (∀ xs n, o.data ≠ .seq xs n) → o.data ≠ .fields #[] → H b = none := fun {b o} e h1 h2 => by
    cases q : H b with
    | none => rfl
    | some u =>
      rcases S.o b u q with ⟨hb, _⟩ | ⟨rfl, _⟩
      · have z := (tabAt hb).symm.trans e
        cases z
        exact absurd rfl h2
      · have z := ha.symm.trans e
        cases z
        exact absurd rfl (h1 _ _)
  have base : ∀ {b : Addr} {o : Obj}, s.heap.get? b = some o → (∀ xs n, o.data ≠ .seq xs n) → o.data ≠ .fields #[] → (hidT s.heap H).get? b = some o := fun e h1 h2 => hidT_get e (free e h1 h2)
  have nsB : ∀ {b : Addr} {m : Str → Option Value}, s.heap.Ns b m → (hidT s.heap H).Ns b m := fun {b m} ⟨o, es, ep, e, dd, r⟩ =>
    ⟨o, es, ep, base e (fun xs n z => by rw [dd] at z; cases z) (fun z => by rw [dd] at z; cases z), dd, r⟩
  have kB : K.In (hidT s.heap H) := fun b o e => hidT_get (Z.kin b o e) (by
    cases q : H b with
    | none => rfl
    | some u =>
      rcases S.o b u q with ⟨hb, _⟩ | ⟨rfl, hk, _⟩
      · obtain ⟨p, hp, rfl⟩ := List.mem_map.mp hb
        rw [Z.out p hp] at e
        cases e
      · rw [hk] at e
        cases e)
  have mB : L2.Mod K mg (hidT s.heap H) := by
    obtain ⟨mc, h1, h2⟩ := Z.lim
    exact ⟨kB, nsB Z.glo, ⟨mb, nsB Z.blt, Z.bbb⟩, ⟨mc, nsB h1, h2⟩⟩
  have tB : ∀ p ∈ cs, TabB (hidT s.heap H) mg p.1 p.2 := fun p hp => by
    refine ⟨?_, ?_, fun z => ?_⟩
    · obtain ⟨o, vs, file, tf, fl, tg, inF, tx, tt, e1, c1, c2, c3, c4⟩ := Z.hdr p hp
      exact ⟨o, vs, file, tf, fl, tg, inF, tx, tt, base e1 (fun xs n z => by rw [c2] at z; cases z) (fun z => by rw [c2] at z; cases z; simp at c3), c1, c2, c3, c4⟩
    · obtain ⟨bm, ob, b1, b2, b3, b4, b5, b6⟩ := Z.bmn
      refine ⟨bm, ob, b1, b2, fun q => ?_, fun q => ?_, base b3 (fun xs n z => by rw [b6] at z; cases z) (fun z => by rw [b6] at z; cases z), b4, b5, b6⟩
      · obtain ⟨o, es, ep, e, dd, _⟩ := Z.glo
        rw [← q, b3] at e
        cases e
        rw [b6] at dd
        cases dd
      · rw [q, Z.tab p hp] at b3
        cases b3
        cases b6
    · obtain ⟨o, es, ep, e, dd, _⟩ := Z.glo
      rw [z, Z.tab p hp] at e
      cases e
      cases dd
  have e0 : Env0 P w K mg (hidT s.heap H) callerA [] s H := by
    refine ⟨rfl, mB, fun b o e => of_hidT e, Nat.le_of_eq (hidT_size _ _), trivial, fun b hb => ?_, hok, .of_eq Z.gen⟩
    cases (show b ∈ ([] : List Addr) from hb)
  refine codeAny_mono ((F _ kB (nsB Z.glo) tB).go callerA [] s H ⟨[.ref a], []⟩ [.ref a] [.ref a] _ _ rfl hr e0 (hbind s (.ref a)) (.cons rfl .nil) hsp) fun r s' h => ?_
  rcases r with e | fl
  · exact (cx_no h).elim
  cases fl with
  | ret u =>
    obtain ⟨v, H', os, bare, un, hok', rv, q⟩ := h
    have q : v = .bl true := q
    subst q
    obtain rfl : u = Value.bool true := rv
    exact ⟨rfl, left_behind Z S hok un hok', os, bare⟩
  | _ => exact False.elim h
theorem law_callG {ns : List Int} (Z : Top0 K mg mb cs s) (ha : s.heap.get? a = some { cls := .type "list", data := .seq us.toArray }) (hi : IntsAre us ns) (hl : ns.length ≤ sizeLine) (hr : Room k callerA)
    (F : ∀ base : Heap, K.In base → base.Ns mainGlobals mg → (∀ p ∈ cs, TabB base mg p.1 p.2) → FnG P w K mg base k fa fd [x] sp) (hbind : ∀ (s : Shared) (u : Value), BindsTo s fd ⟨[u], []⟩ [(x, u)])
    (hsp : ∀ H : Hp, Start0 K cs a H → SqL K H a (ns.map V.int) → sp [.ref a] H (fun v _ => v = .bl true) fun _ _ _ => False) :
    codeAny (model P w) callerA (.call (.ref fa) ⟨[.ref a], []⟩) (fun r s' => r = .ok (.ret (.bool true)) ∧ OldK s.heap s'.heap ∧ s'.os = s.os ∧ AllBare s'.gens) s := by
  have rv := vals_ints hi
  have aT : a ∉ cs.map (·.2) := fun z => by
    obtain ⟨p, hp, e⟩ := List.mem_map.mp z
    have q := Z.tab p hp
    rw [e, ha] at q
    cases q
  have inT : ∀ {p : Addr × Addr}, p ∈ cs → p.2 ∈ cs.map (·.2) := fun hp => List.mem_map_of_mem hp
  cases hk : K.lookup a with
  | some o =>
    have e := Z.kin a o hk
    rw [ha] at e
    cases e
    have S : Start0 K cs a (fun b => if b ∈ cs.map (·.2) then some (.tbl #[]) else none) := by
      refine ⟨fun p hp => if_pos (inT hp), fun b u q => ?_⟩
      split at q
      · cases q
        exact .inl ⟨by assumption, rfl⟩
      · cases q
    refine core_callG Z ha hr F hbind S (fun b u q => ?_) (hsp _ S (.inr ⟨_, us.toArray, _, hk, rfl, rfl, rfl, ?_, by simpa using rv⟩))
    · rcases S.o b u q with ⟨hb, rfl⟩ | ⟨_, _, ob, xs, rfl⟩
      · obtain ⟨p, hp, rfl⟩ := List.mem_map.mp hb
        exact Z.tab p hp
      · skip
        split at q <;> cases q
    · rw [List.size_toArray, hi.length]
      exact hl
  | none =>
    have S : Start0 K cs a (fun b => if b = a then some (.frz { cls := .type "list", data := .seq us.toArray } (.lst (ns.map V.int))) else if b ∈ cs.map (·.2) then some (.tbl #[]) else none) := by
      refine ⟨fun p hp => ?_, fun b u q => ?_⟩
      · have ne : p.2 ≠ a := fun z => aT (z ▸ inT hp)
        exact (if_neg ne).trans (if_pos (inT hp))
      · skip
        split at q
        · cases q
          exact .inr ⟨by assumption, hk, _, _, rfl⟩
        · split at q
          · cases q
            exact .inl ⟨by assumption, rfl⟩
          · cases q
    refine core_callG Z ha hr F hbind S (fun b u q => ?_) (hsp _ S (.inl (.inr ⟨_, if_pos rfl⟩)))
    split at q
    · rename_i e
      cases q
      subst e
      exact ⟨ha, by rw [List.length_map]; exact hl, us, _, rv, ha⟩
    · split at q
      · rename_i hb
        cases q
        obtain ⟨p, hp, rfl⟩ := List.mem_map.mp hb
        exact Z.tab p hp
      · cases q
end
def lamNm (x : Str) : Str := x ++ ".<locals>." ++ "<lambda>"
structure LamT (K : PySem.W.Frag) (mg : Str → Option Value) (base : Heap) (T : List (Addr × Str)) (x : Str) : Prop where
  tb : TabB base mg (He.codeOf K (x, none)) (He.cT K (x, none)).2
  mem : ((He.cT K (x, none)).2, lamNm x) ∈ T
  uni : ∀ p ∈ T, p.1 = (He.cT K (x, none)).2 → p.2 = lamNm x
section
variable {P : Program} {w : World} {K : PySem.W.Frag} {mg : Str → Option Value} {base : Heap} {T : List (Addr × Str)}
theorem defG_ok {x : Str} {ag : Arguments} {body : List Stmt} {scope : Scope} {fd : FuncData} {N ps : List Str} {k : Nat} {F : Fn} (D : FunD K x x ag body scope [] [] (He.ga K x) fd) (S : FnScope N ps scope) (gm : mg x = some (.ref (He.ga K x))) (bn : Binds K fd ps [])
    (len : ∀ ds Q Ex, F ds Q Ex → ds.length = ps.length)
    (hd : ∀ (A : Around) (outer : List Env) (s : Shared) (H : Hp) (E : XK), A.guards = some [] → Bd (cxOf (L2.CX P w) P w K mg base N x scope (He.ga K x) (.ref (He.codeOf K (x, none))) A outer s H E) E k → Takes (cxOf (L2.CX P w) P w K mg base N x scope (He.ga K x) (.ref (He.codeOf K (x, none))) A outer s H E) (fun cls d _ H => E cls d H) →
      ∃ wb, JSs T (cxOf (L2.CX P w) P w K mg base N x scope (He.ga K x) (.ref (He.codeOf K (x, none))) A outer s H E) E body wb ∧ ∀ ds Q Ex, F ds Q Ex → wb (dEnds Q Ex) (startE N ds)) : DefG P w K mg base T x (k + 1) ps F := by
  obtain ⟨oc, od, dV, kV, doc, pm, an, cdv, ct, osl, rfl, lk, hcd, _, _⟩ := D.ex
  obtain ⟨c, rfl⟩ := He.codeIn_ref hcd
  have ec : He.codeOf K (x, none) = c := He.codeOf_eq (p := (x, none)) lk rfl
  subst ec
  have ln : ∀ (vs : List V) (H : Hp) (Q : VK) (E : XK), spec K T F vs H Q E → vs.length = ps.length := fun vs H Q E h => by
    obtain ⟨wd, ds, P, Ex, _, r, h, _⟩ := h
    rw [r.length]
    exact len _ _ _ h
  refine ⟨He.ga K x, _, gm, D.kp, bn, ⟨ln, fun A outer s H args us vs Q E gd hr e0 hb r h => ?_⟩, ⟨_, _, _, lk⟩⟩
  refine run_ofS lk hcd S hr e0 hb r (ln _ _ _ _ h) fun hr' => ?_
  obtain ⟨wd, ds, P1, Ex, g, r, h, xo, kk⟩ := h
  have tk : Takes (cxOf (L2.CX P w) P w K mg base N x scope (He.ga K x) (.ref (He.codeOf K (x, none))) A outer s H E) (fun cls d _ H => E cls d H) := takes_of rfl rfl rfl rfl
  have B : Bd (cxOf (L2.CX P w) P w K mg base N x scope (He.ga K x) (.ref (He.codeOf K (x, none))) A outer s H E) E k := ⟨hr', passes_call tk fun _ _ _ _ h => h, passes_of rfl, rfl, S.nd⟩
  obtain ⟨wb, hj, hw⟩ := hd A outer s H E gd B tk
  refine ⟨_, hj, ⟨wd, H, []⟩, wd, startE N ds, dEnds P1 Ex, rel_start g r, hw ds P1 Ex h, ⟨xo, fun env' hn σ' wd' H' le r' => ?_, fun d hd v wd' H' o' g' k' rp => kk d hd v wd' H' o' g' k' rp, fun _ z => z.elim, fun _ z => z.elim⟩⟩
  exact kk .non hn .non wd' H' r'.ord r'.good r'.keep .non
end
abbrev IniV : Type := Option (Str × Str × Arguments × FuncBody × Scope × Addr × Value × Addr)
structure IniD where
  C : Str
  st : Stmt
def iniA (K : PySem.W.Frag) (C : Str) : Addr := He.ma K (He.ga K C) "__init__"
def iniObs (K : PySem.W.Frag) (C : Str) : IniV := match K.lookup (iniA K C) with
  | some ⟨_, _, .func fd, _⟩ => some (fd.name, fd.qualname, fd.params, fd.body, fd.scope, fd.globals, fd.defaults, fd.builtins)
  | _ => none
def IniD.val (d : IniD) : IniV := some ("__init__", d.C ++ ".__init__", defArgs d.st, .stmts (defBody d.st), defScope d.st, mainGlobals, .none, builtinsNs)
def iniB (K : PySem.W.Frag) (file : Str) (C : Str) : Bool := match K.lookup (iniA K C) with
  | some ⟨_, _, .func fd, _⟩ => PySem.W.codeIn K fd.code fd.qualname && ((match fd.code with
    | .ref c => (match K.lookup c with
      | some ⟨_, _, .fields vs, _⟩ => (match (vs[2]? : Option Value) with
        | some (.str y _) => decide (y = file)
        | _ => false)
      | _ => false)
    | _ => false) && (match fd.closure with
    | [(n, cc)] => decide (n = "__class__") && (match K.lookup cc with
      | some ⟨_, _, .cell (some (.ref a)), _⟩ => decide (a = He.ga K C)
      | _ => false)
    | _ => false))
  | _ => false
theorem ini_ok {K : PySem.W.Frag} {file : Str} {d : IniD} (h : iniB K file d.C = true) (e : iniObs K d.C = d.val) : ExI K (He.ga K d.C) (iniA K d.C) file (d.C ++ ".__init__") d.st := by
  unfold iniB at h
  unfold iniObs at e
  cases q : K.lookup (iniA K d.C) with
  | none =>
    rw [q] at h
    cases h
  | some o =>
    obtain ⟨oc, od, dt, osl⟩ := o
    rw [q] at h e
    cases dt with
    | func fd =>
      obtain ⟨n1, n2, n3, n4, n5, n6, n7, n8, n9, n10, n11, n12, n13, n14, n15⟩ := fd
      have e2 : (some (n1, n2, n3, n4, n5, n6, n8, n15) : IniV) = some (("__init__" : Str), d.C ++ ".__init__", defArgs d.st, .stmts (defBody d.st), defScope d.st, mainGlobals, .none, builtinsNs) := e
      simp only [Option.some.injEq, Prod.mk.injEq] at e2
      obtain ⟨h1, h2, h3, h4, h5, h6, h7, h8⟩ := e2
      subst h1 h2 h3 h4 h5 h6 h7 h8
      obtain ⟨c1, h⟩ := He.ba h
      obtain ⟨c2, c3⟩ := He.ba h
      have c1 : PySem.W.codeIn K n13 (d.C ++ ".__init__") = true := c1
      obtain ⟨cda, rfl⟩ := He.codeIn_ref c1
      dsimp only at c2 c3
      cases q2 : K.lookup cda with
      | none =>
        rw [q2] at c2
        cases c2
      | some oo =>
        obtain ⟨ccl, cdd, dt2, ccs⟩ := oo
        rw [q2] at c2
        cases dt2 with
        | fields vs =>
          dsimp only at c2
          cases q3 : vs[2]? with
          | none =>
            rw [q3] at c2
            cases c2
          | some y =>
            rw [q3] at c2
            cases y with
            | str y tf =>
              have ey : y = file := of_decide_eq_true c2
              subst ey
              cases n7 with
              | nil => cases c3
              | cons a r =>
                cases r with
                | cons _ _ => cases c3
                | nil =>
                  obtain ⟨n, cc⟩ := a
                  obtain ⟨d1, d2⟩ := He.ba c3
                  have d1 := of_decide_eq_true d1
                  subst d1
                  cases q4 : K.lookup cc with
                  | none =>
                    rw [q4] at d2
                    cases d2
                  | some o4 =>
                    obtain ⟨cl, cld, dt4, csl⟩ := o4
                    rw [q4] at d2
                    cases dt4 with
                    | cell v =>
                      cases v with
                      | none => cases d2
                      | some v =>
                        cases v with
                        | ref a =>
                          have ea : a = He.ga K d.C := of_decide_eq_true d2
                          subst ea
                          exact ⟨oc, od, osl, n9, n10, n11, n12, cda, n14, cc, q, c1, ⟨ccl, cdd, vs, ccs, tf, q2, q3⟩, cl, cld, csl, q4⟩
                        | _ => cases d2
                    | _ => cases d2
            | _ => cases c2
        | _ => cases c2
    | _ => cases h
def exfB (K : PySem.W.Frag) (C : Str) (B i newId : String) (bmB : List Value) (f : Str) : Bool :=
  PySem.W.excInitIn K (He.ga K C) bmB newId && (PySem.W.keepIn K (.ref (He.ga K C)) && (decide (PySem.W.subIn K (.ref (He.ga K C)) (.type "BaseException") = some true) && (decide (PySem.W.typeIn K (.ref (He.ga K C)) = some (.type "type")) &&
  (decide (PySem.W.findIn K (.ref (He.ga K C)) "__setattr__" = some (some (.builtin "object.__setattr__"))) && (PySem.W.excOver K (He.ga K C) bmB && (decide (PySem.W.takerIn K (He.ga K C) f = some none) && (PySem.W.hasDictIn K (He.ga K C) &&
  (decide (PySem.W.ks_superIn K (He.ga K C) (He.ga K C) "__init__" = some (some (.builtin i))) && (decide (PySem.W.subIn K (.ref (He.ga K C)) (.type B) = some true) && (decide (PySem.W.mroIn K (He.ga K C) (.ref (He.ga K C)) = some true) && (decide (PySem.W.nsIn K cStatics "thirdparty.any" = some none) &&
  (decide (PySem.W.findIn K (.ref (He.ga K C)) "__init__" = some (some (.ref (iniA K C)))) && decide (PySem.W.typeIn K (.ref (iniA K C)) = some (.type "function"))))))))))))))
theorem exf_ok {K : PySem.W.Frag} {C : Str} {B i newId : String} {bmB : List Value} {f : Str} (h : exfB K C B i newId bmB f = true) : ExF K (He.ga K C) B i newId bmB f ∧ PySem.W.findIn K (.ref (He.ga K C)) "__init__" = some (some (.ref (iniA K C))) ∧ PySem.W.typeIn K (.ref (iniA K C)) = some (.type "function") := by
  obtain ⟨h1, h⟩ := He.ba h
  obtain ⟨h2, h⟩ := He.ba h
  obtain ⟨h3, h⟩ := He.ba h
  obtain ⟨h4, h⟩ := He.ba h
  obtain ⟨h5, h⟩ := He.ba h
  obtain ⟨h6, h⟩ := He.ba h
  obtain ⟨h7, h⟩ := He.ba h
  obtain ⟨h8, h⟩ := He.ba h
  obtain ⟨h9, h⟩ := He.ba h
  obtain ⟨h10, h⟩ := He.ba h
  obtain ⟨h11, h⟩ := He.ba h
  obtain ⟨h12, h⟩ := He.ba h
  obtain ⟨h13, h14⟩ := He.ba h
  exact ⟨⟨h1, h2, of_decide_eq_true h3, of_decide_eq_true h4, of_decide_eq_true h5, h6, of_decide_eq_true h7, h8, of_decide_eq_true h9, of_decide_eq_true h10, of_decide_eq_true h11, of_decide_eq_true h12⟩, of_decide_eq_true h13, of_decide_eq_true h14⟩
structure SaysZ (fa : List He.Fa) (fn : List He.DefD) (fb : List He5.DefA) (xi : List IniD) (tf : List Str) (ex : PySem.W.Frag → Bool) (h : Heap) (K : PySem.W.Frag) : Prop where
  d : He.SaysD fa fn K
  a : He5.SaysA [] fb K
  i : xi.map (fun d => iniObs K d.C) = xi.map IniD.val
  x : ex K = true
  nd : (tf.map fun p => (He.cT K (p, none)).2).Nodup
  hd : ∀ p ∈ tf, PySem.W.codeHdIn K (He.cT K (p, none)).1 (He.cT K (p, none)).2 = true
  out : ∀ p ∈ tf, K.lookup (He.cT K (p, none)).2 = none
  emp : ∀ p ∈ tf, h.get? (He.cT K (p, none)).2 = some { cls := .none, data := .fields #[] }
abbrev AlZ : Type := He.AlD × He.AlD × List IniV × Bool
def frZ (g : Addr → Option Obj) (n : Nat) : PySem.W.Frag := He.frT g (He5.asA g n)
def obsZ (n : Nat) (fa : List He.Fa) (fn : List He.DefD) (fb : List He5.DefA) (xi : List IniD) (tf : List Str) (ex : PySem.W.Frag → Bool) (g : Addr → Option Obj) : AlZ :=
  (He.obsD fa fn (frZ g n), He5.obsA [] fb (frZ g n), xi.map (fun d => iniObs (frZ g n) d.C), ex (frZ g n) && (decide ((tf.map fun p => (He.cT (frZ g n) (p, none)).2).Nodup) && He.tabsB g (tf.map fun p => (p, none)) (frZ g n)))
def valZ (fn : List He.DefD) (fb : List He5.DefA) (xi : List IniD) : AlZ := (He.valD fn, He5.valA fb, xi.map IniD.val, true)
theorem saysZ_of {n : Nat} {fa : List He.Fa} {fn : List He.DefD} {fb : List He5.DefA} {xi : List IniD} {tf : List Str} {ex : PySem.W.Frag → Bool} {h : Heap} (e : obsZ n fa fn fb xi tf ex h.get? = valZ fn fb xi) : SaysZ fa fn fb xi tf ex h (frZ h.get? n) := by
  have e4 : (ex (frZ h.get? n) && (decide ((tf.map fun p => (He.cT (frZ h.get? n) (p, none)).2).Nodup) && He.tabsB h.get? (tf.map fun p => (p, none)) (frZ h.get? n))) = true := congrArg (fun z : AlZ => z.2.2.2) e
  obtain ⟨h1, h2⟩ := He.ba e4
  obtain ⟨h2, h3⟩ := He.ba h2
  have key : ∀ p ∈ tf, PySem.W.codeHdIn (frZ h.get? n) (He.cT (frZ h.get? n) (p, none)).1 (He.cT (frZ h.get? n) (p, none)).2 = true ∧ ∃ o, h.get? (He.cT (frZ h.get? n) (p, none)).2 = some o ∧ He.emptyTab o = true := fun p hp => by
    obtain ⟨z1, z2⟩ := He.ba (List.all_eq_true.mp h3 (p, none) (List.mem_map_of_mem hp))
    refine ⟨z1, ?_⟩
    cases q : h.get? (He.cT (frZ h.get? n) (p, none)).2 with
    | none =>
      rw [q] at z2
      cases z2
    | some o =>
      rw [q] at z2
      exact ⟨o, rfl, z2⟩
  refine ⟨congrArg (fun z : AlZ => z.1) e, congrArg (fun z : AlZ => z.2.1) e, congrArg (fun z : AlZ => z.2.2.1) e, h1, of_decide_eq_true h2, fun p hp => (key p hp).1, fun p hp => ?_, fun p hp => ?_⟩
  · obtain ⟨_, o, q, z⟩ := key p hp
    exact He.frT_none q z
  · obtain ⟨_, o, q, z⟩ := key p hp
    rw [q, He.emptyTab_eq z]
def hookZ (n : Nat) (fa : List He.Fa) (fn : List He.DefD) (fb : List He5.DefA) (xi : List IniD) (tf : List Str) (ex : PySem.W.Frag → Bool) : PySem.W.Hook where
  α := AlZ
  obs := fun s => obsZ n fa fn fb xi tf ex s.heap.get?
  val := fun _ => valZ fn fb xi
  says := fun _ h => ∃ K : PySem.W.Frag, K.In h ∧ SaysZ fa fn fb xi tf ex h K
  of := fun _ _ e => ⟨_, He.frT_in, saysZ_of e⟩
  keeps := fun _ _ _ ⟨K, hK, c⟩ k => ⟨K, PySem.W.Frag.In.keeps hK k, ⟨c.d, c.a, c.i, c.x, c.nd, c.hd, c.out, fun p hp => k _ _ (c.emp p hp)⟩⟩
def tabT (K : PySem.W.Frag) (tf : List Str) : List (Addr × Str) := tf.map fun p => ((He.cT K (p, none)).2, lamNm p)
theorem lamT_of {K : PySem.W.Frag} {mg : Str → Option Value} {base : Heap} {tf : List Str} (nd : (tf.map fun p => (He.cT K (p, none)).2).Nodup) (tb : ∀ p ∈ tf, TabB base mg (He.codeOf K (p, none)) (He.cT K (p, none)).2) {x : Str} (hx : x ∈ tf) : LamT K mg base (tabT K tf) x := by
  refine ⟨tb x hx, List.mem_map.mpr ⟨x, hx, rfl⟩, fun p hp e => ?_⟩
  obtain ⟨y, hy, rfl⟩ := List.mem_map.mp hp
  have e : (He.cT K (y, none)).2 = (He.cT K (x, none)).2 := e
  have key : ∀ {l : List Str}, (l.map fun p => (He.cT K (p, none)).2).Nodup → y ∈ l → x ∈ l → y = x := fun {l} => by
    induction l with
    | nil => intro _ h; cases h
    | cons a l ih =>
      intro nd h1 h2
      rw [List.map_cons, List.nodup_cons] at nd
      rcases List.mem_cons.mp h1 with z1 | z1
      · rcases List.mem_cons.mp h2 with z2 | z2
        · exact z1.trans z2.symm
        · exact absurd (show (He.cT K (a, none)).2 ∈ l.map (fun p => (He.cT K (p, none)).2) from List.mem_map.mpr ⟨x, z2, by rw [← z1]; exact e.symm⟩) nd.1
      · rcases List.mem_cons.mp h2 with z2 | z2
        · exact absurd (show (He.cT K (a, none)).2 ∈ l.map (fun p => (He.cT K (p, none)).2) from List.mem_map.mpr ⟨y, z1, by rw [← z2]; exact e⟩) nd.1
        · exact ih nd.2 z1 z2
  rw [key nd hy hx]
theorem good_startT {K : PySem.W.Frag} {H : Hp} {a : Addr} {ns : List Int} {tf : List Str} (hl : ns.length ≤ sizeLine) (S : Start0 K (tf.map fun p => He.cT K (p, none)) a H) (h : SqL K H a (ns.map V.int)) : ∃ wd : Wd, Good (tabT K tf) wd H ∧ Rep K wd (.ref a) (.scr ns) := by
  have tab : Tabs (tabT K tf) H := fun q hq => by
    obtain ⟨p, hp, rfl⟩ := List.mem_map.mp hq
    exact TabS.nil (S.t _ (List.mem_map.mpr ⟨p, hp, rfl⟩))
  have siz : ∀ b o, H b = some o → SizedH o := fun b o e => by
    rcases S.o b o e with ⟨_, rfl⟩ | ⟨_, _, _, _, rfl⟩ <;> exact trivial
  have hl' : (ns.map V.int).length ≤ sizeLine := by rw [List.length_map]; exact hl
  have key : ∀ o, H a = some o → noTb o → Sized o → Good (tabT K tf) ⟨fun b => if b = a then some o else none, []⟩ H := fun o e t z => by
    refine ⟨fun b u q => ?_, fun b u q => ?_, fun b hb => (nomatch hb), tab, siz⟩
    · have q : (if b = a then some o else none) = some u := q
      split at q
      · rename_i eb
        rw [eb, e, q]
      · cases q
    · have q : (if b = a then some o else none) = some u := q
      split at q
      · cases q
        exact ⟨t, z⟩
      · cases q
  rcases h with (h | ⟨o, h⟩) | h
  · exact ⟨_, key _ h noTb_lst hl', .scr (.inl (.inl (if_pos rfl)))⟩
  · exact ⟨_, key _ h (fun _ z => nomatch z) hl', .scr (.inl (.inr ⟨o, if_pos rfl⟩))⟩
  · exact ⟨⟨fun _ => none, []⟩, ⟨fun b u q => (nomatch q), fun b u q => (nomatch q), fun b hb => (nomatch hb), tab, siz⟩, .scr (.inr h)⟩
theorem law_endZ {l : PySem.W.OpenLaw} {k : Nat} {q : Program} {loose : List Str} {XP : (Str → Option Value) → Heap → Prop} {d : DefRec} {x : Str} {fa : List He.Fa} {fn : List He.DefD} {fb : List He5.DefA} {xi : List IniD} {tf : List Str} {ex : PySem.W.Frag → Bool} {n : Nat} {st : Stmt} {F : Fn}
    (hn : l.most = some 63) (hdf : d.params.defaults = []) (hr : Room k callerA) (hname : d.name = "law")
    (hd : ∀ (w : World) (K : PySem.W.Frag) (mg : Str → Option Value) (h base : Heap), K.In h → h.Ns mainGlobals mg → SaysZ fa fn fb xi tf ex h K → HasD K mg "law" st ∧ ((∀ y ∈ tf, LamT K mg base (tabT K tf) y) → DefG l.prog w K mg base (tabT K tf) "law" k [x] F))
    (hb : ∀ (K : PySem.W.Frag) (f : Addr) (fd : FuncData), FunD K "law" "law" (defArgs st) (defBody st) (defScope st) [] [] f fd → ∀ (s : Shared) (u : Value), BindsTo s fd ⟨[u], []⟩ [(x, u)])
    (law : ∀ ns : List Int, ns.length ≤ 63 → F [.scr ns] (fun v => v = .bl true) (fun _ => False)) :
    PySem.W.WalkO q loose XP (hookZ n fa fn fb xi tf ex).says l.row.toRowW d [] (fun f vs => PySem.call f vs) := by
  refine Att.attach_callB hn hdf fun w s₀ s₁ mg mb f o pm cd doc a vs ns G Y ho hdd hcd hmg hobj hints hlen hbits hg => ?_
  obtain ⟨K, KX, c⟩ := Y
  rw [hname] at hmg
  obtain ⟨⟨f', fd, D, gm⟩, _⟩ := hd w K mg s₁.heap s₁.heap KX G.T.g c
  rw [gm] at hmg
  cases hmg
  have Z : Top0 K mg mb (tf.map fun p => He.cT K (p, none)) s₁ := by
    refine ⟨KX, G.T.g, G.T.b, G.T.builtins, G.T.nolimit, hg, fun p hp => ?_, fun p hp => ?_, fun p hp => ?_, G.T.bmain⟩
    · obtain ⟨y, hy, rfl⟩ := List.mem_map.mp hp
      exact c.emp y hy
    · obtain ⟨y, hy, rfl⟩ := List.mem_map.mp hp
      exact c.out y hy
    · obtain ⟨y, hy, rfl⟩ := List.mem_map.mp hp
      exact PySem.W.codeHd_of_K KX (c.hd y hy)
  refine law_callG (sp := spec K (tabT K tf) F) Z hobj hints (Nat.le_trans hlen (by decide)) hr (fun base KB GB TB => ?_) (hb K _ fd D) fun H S hS => ?_
  · obtain ⟨f2, fd2, g1, g2, g3, g4, oc2, od2, osl2, lk2⟩ := ((hd w K mg s₁.heap base KX G.T.g c).2 fun y hy => lamT_of c.nd (fun p hp => TB _ (List.mem_map.mpr ⟨p, hp, rfl⟩)) hy).ex
    rw [gm] at g1
    cases g1
    have e : fd2 = fd := by
      obtain ⟨oc, od, dV, kV, doc, pm, an, cdv, ct, osl, _, lk, _⟩ := D.ex
      rw [lk] at lk2
      cases lk2
      rfl
    rw [e] at g4
    exact g4
  · obtain ⟨wd, g, r⟩ := good_startT (Nat.le_trans hlen (by decide)) S hS
    refine ⟨wd, [.scr ns], _, _, g, .cons r .nil, law ns hlen, fun x hx => hx.elim, fun d hd v wd' H' _ _ _ rp => ?_⟩
    rw [hd] at rp
    cases rp
    rfl
end Pd

namespace Pd
open PySem PySem.Spec PyProof.Rows L2
def pushB : List Addr → Nat → List Addr → (Nat → List Addr → List Addr) → List Addr
  | [], v, acc, k => k v acc
  | a :: r, v, acc, k => match Nat.testBit v a with
    | true => pushB r v acc k
    | false => pushB r (v ||| (1 <<< a)) (a :: acc) k
def refsG (g : Addr → Option Obj) (a : Addr) : List Addr := match g a with
  | some o => He.refsD o
  | none => []
def bfsB (g : Addr → Option Obj) : Nat → Nat → List Addr → List Addr
  | 0, _, l => l
  | n + 1, v, l => pushB (l.flatMap (refsG g)) v [] fun v l' => l ++ bfsB g n v l'
def asB (g : Addr → Option Obj) (n : Nat) : List Addr := bfsB g n (1 <<< mainGlobals) [mainGlobals] ++ [cStatics]
def frB (g : Addr → Option Obj) (n : Nat) : PySem.W.Frag := He.frT g (asB g n)
def obsV (n : Nat) (fa : List He.Fa) (fn : List He.DefD) (fb : List He5.DefA) (xi : List IniD) (tf : List Str) (ex : PySem.W.Frag → Bool) (g : Addr → Option Obj) : AlZ :=
  (He.obsD fa fn (frB g n), He5.obsA [] fb (frB g n), xi.map (fun d => iniObs (frB g n) d.C), ex (frB g n) && (decide ((tf.map fun p => (He.cT (frB g n) (p, none)).2).Nodup) && He.tabsB g (tf.map fun p => (p, none)) (frB g n)))
theorem saysV_of {n : Nat} {fa : List He.Fa} {fn : List He.DefD} {fb : List He5.DefA} {xi : List IniD} {tf : List Str} {ex : PySem.W.Frag → Bool} {h : Heap} (e : obsV n fa fn fb xi tf ex h.get? = valZ fn fb xi) : SaysZ fa fn fb xi tf ex h (frB h.get? n) := by
  have e4 : (ex (frB h.get? n) && (decide ((tf.map fun p => (He.cT (frB h.get? n) (p, none)).2).Nodup) && He.tabsB h.get? (tf.map fun p => (p, none)) (frB h.get? n))) = true := congrArg (fun z : AlZ => z.2.2.2) e
  obtain ⟨h1, h2⟩ := He.ba e4
  obtain ⟨h2, h3⟩ := He.ba h2
  have key : ∀ p ∈ tf, PySem.W.codeHdIn (frB h.get? n) (He.cT (frB h.get? n) (p, none)).1 (He.cT (frB h.get? n) (p, none)).2 = true ∧ ∃ o, h.get? (He.cT (frB h.get? n) (p, none)).2 = some o ∧ He.emptyTab o = true := fun p hp => by
    obtain ⟨z1, z2⟩ := He.ba (List.all_eq_true.mp h3 (p, none) (List.mem_map_of_mem hp))
    refine ⟨z1, ?_⟩
    cases q : h.get? (He.cT (frB h.get? n) (p, none)).2 with
    | none =>
      rw [q] at z2
      cases z2
    | some o =>
      rw [q] at z2
      exact ⟨o, rfl, z2⟩
  refine ⟨congrArg (fun z : AlZ => z.1) e, congrArg (fun z : AlZ => z.2.1) e, congrArg (fun z : AlZ => z.2.2.1) e, h1, of_decide_eq_true h2, fun p hp => (key p hp).1, fun p hp => ?_, fun p hp => ?_⟩
  · obtain ⟨_, o, q, z⟩ := key p hp
    exact He.frT_none q z
  · obtain ⟨_, o, q, z⟩ := key p hp
    rw [q, He.emptyTab_eq z]
def hookV (n : Nat) (fa : List He.Fa) (fn : List He.DefD) (fb : List He5.DefA) (xi : List IniD) (tf : List Str) (ex : PySem.W.Frag → Bool) : PySem.W.Hook where
  α := AlZ
  obs := fun s => obsV n fa fn fb xi tf ex s.heap.get?
  val := fun _ => valZ fn fb xi
  says := (hookZ n fa fn fb xi tf ex).says
  of := fun _ _ e => ⟨_, He.frT_in, saysV_of e⟩
  keeps := (hookZ n fa fn fb xi tf ex).keeps
theorem obsV_eq {n : Nat} {fa : List He.Fa} {fn : List He.DefD} {fb : List He5.DefA} {xi : List IniD} {tf : List Str} {ex : PySem.W.Frag → Bool} {g : Addr → Option Obj} {s : Shared} (h : ∀ a, g a = s.heap.get? a) : obsV n fa fn fb xi tf ex g = (hookV n fa fn fb xi tf ex).obs s := by
  have e : g = s.heap.get? := funext h
  rw [e] <;> rfl
theorem law_endV {l : PySem.W.OpenLaw} {k : Nat} {q : Program} {loose : List Str} {XP : (Str → Option Value) → Heap → Prop} {d : DefRec} {x : Str} {fa : List He.Fa} {fn : List He.DefD} {fb : List He5.DefA} {xi : List IniD} {tf : List Str} {ex : PySem.W.Frag → Bool} {n : Nat} {st : Stmt} {F : Fn}
    (hn : l.most = some 63) (hdf : d.params.defaults = []) (hr : Room k callerA) (hname : d.name = "law")
    (hd : ∀ (w : World) (K : PySem.W.Frag) (mg : Str → Option Value) (h base : Heap), K.In h → h.Ns mainGlobals mg → SaysZ fa fn fb xi tf ex h K → HasD K mg "law" st ∧ ((∀ y ∈ tf, LamT K mg base (tabT K tf) y) → DefG l.prog w K mg base (tabT K tf) "law" k [x] F))
    (hb : ∀ (K : PySem.W.Frag) (f : Addr) (fd : FuncData), FunD K "law" "law" (defArgs st) (defBody st) (defScope st) [] [] f fd → ∀ (s : Shared) (u : Value), BindsTo s fd ⟨[u], []⟩ [(x, u)])
    (law : ∀ ns : List Int, ns.length ≤ 63 → F [.scr ns] (fun v => v = .bl true) (fun _ => False)) :
    PySem.W.WalkO q loose XP (hookV n fa fn fb xi tf ex).says l.row.toRowW d [] (fun f vs => PySem.call f vs) := law_endZ (n := n) hn hdf hr hname hd hb law
end Pd
namespace Pd
open PySem PySem.W PySem.Calls PyProof.Rows HandSHeadRun
def Run1 (r : OpenRow) (M : Nat) (w : World) : Prop := ∀ os : OsState, (endF (stepQ (denQ tabQ) r.prog w) M r.prog w os).map (fun s => looksF r.prog (boot_heap w.params) s.abs) = some true
def Run2 (r : OpenRow) (q : Program) (M : Nat) (loose : List PySem.Str) (w : World) : Prop := ∀ os : OsState, (endF (stepQ (denQ tabQ) r.prog w) M r.prog w os).map (fun s => seenQ q loose (importedModules r.prog.main.body) (fun s => xlAt q [] s && recOk r.toRowW.records s) s.abs) = some (openGood q loose)
def Run3 (r : OpenRow) (H : Hook) (ob : SharedT → H.α) (M : Nat) (w : World) : Prop := ∀ os : OsState, (endF (stepQ (denQ tabQ) r.prog w) M r.prog w os).map ob = some (H.val w)
theorem runEq_of {r : OpenRow} {q : Program} {H : Hook} {ob : SharedT → H.α} {M : Nat} {loose : List PySem.Str} {w : World} (h1 : Run1 r M w) (h2 : Run2 r q M loose w) (h3 : Run3 r H ob M w) : RunEq r q H ob M loose w := by
  intro os
  have a := h1 os
  have b := h2 os
  have c := h3 os
  cases e : endF (stepQ (denQ tabQ) r.prog w) M r.prog w os with
  | none =>
    rw [e] at a
    cases a
  | some t =>
    rw [e] at a b c
    exact congrArg some (Prod.ext (Option.some.inj a) (Prod.ext (Option.some.inj b) (Option.some.inj c)))
end Pd

namespace Pd
open PySem PySem.Spec PyProof.Rows L2 LamX
section
variable {X : Cx} {i : Nat}
end
section
variable {X : Cx} {T : List (Addr × Str)} {E : XK} {k : Nat}
end
theorem excC_of {K : PySem.W.Frag} {mg : Str → Option Value} {C : Str} (h : (He.Fa.exc C).ok K = true) (g : mg C = some (.ref (He.ga K C))) : ExcC K mg C := by
  obtain ⟨h1, h2, h3, h4⟩ := He.exc_ok h
  exact ⟨h1, h2, h3, h4, g⟩
end Pd

namespace Pd
open PySem PySem.Spec PyProof.Rows L2 LamX
section
variable {X : Cx} {T : List (Addr × Str)} {E : XK} {k : Nat}
end
theorem defG_okX {P : Program} {w : World} {K : PySem.W.Frag} {mg : Str → Option Value} {base : Heap} {T : List (Addr × Str)} {x : Str} {st : Stmt} {N ps : List Str} {k : Nat} {F : Fn} (d : HasD K mg x st) (gm : mg x = some (.ref (He.ga K x))) (S : FnScope N ps (defScope st))
    (bn : ∀ (f : Addr) (fd : FuncData), FunD K x x (defArgs st) (defBody st) (defScope st) [] [] f fd → Binds K fd ps []) (len : ∀ ds Q Ex, F ds Q Ex → ds.length = ps.length)
    (hd : ∀ (A : Around) (outer : List Env) (s : Shared) (H : Hp) (E : XK), A.guards = some [] → Bd (cxOf (L2.CX P w) P w K mg base N x (defScope st) (He.ga K x) (.ref (He.codeOf K (x, none))) A outer s H E) E k →
      Takes (cxOf (L2.CX P w) P w K mg base N x (defScope st) (He.ga K x) (.ref (He.codeOf K (x, none))) A outer s H E) (fun cls d _ H => E cls d H) →
      ∃ wb, JSs T (cxOf (L2.CX P w) P w K mg base N x (defScope st) (He.ga K x) (.ref (He.codeOf K (x, none))) A outer s H E) E (defBody st) wb ∧ ∀ ds Q Ex, F ds Q Ex → wb (dEnds Q Ex) (startE N ds)) : DefG P w K mg base T x (k + 1) ps F := by
  obtain ⟨f, fd, D, gm'⟩ := d
  rw [gm] at gm'
  cases gm'
  exact defG_ok D S gm (bn _ _ D) len hd
theorem exV_of {P : Program} {K : PySem.W.Frag} {mg : Str → Option Value} {C f pv file : Str} {B i newId : String} {bmB : List Value} {st : Stmt} {G : V → Prop} (h1 : ExcBaseFacts B newId i bmB) (h2 : PySem.W.KxsFacts B i) (h3 : StoreFacts B bmB "object.__setattr__" "object") (h4 : exfB K C B i newId bmB f = true)
    (h5 : ExI K (He.ga K C) (iniA K C) file (C ++ ".__init__") st) (h6 : ∃ me p0 p1 p2 p4 p5 p6 p7 p8 p9, ExB pv f st me G p0 p1 p2 p4 p5 p6 p7 p8 p9) (h7 : ((P.main.file : Str) == file) = true) (h8 : (P.main.scope.names.lookup ("super" : Str)).isSome = false) (h9 : mg "super" = none) (h10 : mg C = some (.ref (He.ga K C))) : ExVG P K mg C f G := by
  obtain ⟨me, p0, p1, p2, p4, p5, p6, p7, p8, p9, h6⟩ := h6
  obtain ⟨e1, e2, e3⟩ := exf_ok h4
  exact ⟨⟨B, i, newId, bmB, iniA K C, file, _, pv, st, me, p0, p1, p2, p4, p5, p6, p7, p8, p9, h1, h2, h3, e1, h5, h6, e2, e3, h7⟩, h8, h9, h10⟩
end Pd

namespace Pd
open PySem PySem.Spec PyProof.Rows L2 LamX
section
variable {prog : Program} {w : World} {A : Around} {E : Value → Shared → Prop} {s : Shared}
end
section
variable {X : Cx} {T : List (Addr × Str)} {E : XK} {k : Nat}
end
end Pd

namespace Zn
open PySem
theorem ne_ {a b : Nat} (h : a ≠ b) : @Ne Addr a b := h
def SrcIt (h : Heap) (it c : Nat) (k : Nat) (xs : Array Value) : Prop := (h.IsListIter it c k ∧ h.IsList c xs) ∨ (h.IsTupleIter it c k ∧ h.IsTuple c xs)
theorem SrcIt.at {h h' : Heap} {it c : Nat} {k : Nat} {xs : Array Value} (s : SrcIt h it c k xs) (h1 : ∀ o, h.get? it = some o → h'.get? it = some o) (h2 : ∀ o, h.get? c = some o → h'.get? c = some o) : SrcIt h' it c k xs := by
  rcases s with ⟨a, b⟩ | ⟨a, b⟩
  · exact .inl ⟨a.at h1, b.at h2⟩
  · exact .inr ⟨a.at h1, b.at h2⟩
section
variable {prog : Program} {w : World} {A : Around} {E : Value → Shared → Prop} {s : Shared}
theorem next_item {it c : Nat} {k : Nat} {xs : Array Value} {x : Value} {Q : Value → Shared → Prop} (hs : SrcIt s.heap it c k xs) (ne : c ≠ it) (hx : xs[k]? = some x)
    (hQ : ∀ h', SrcIt h' it c (k + 1) xs → Heap.SameBut it s.heap h' → Q x { s with heap := h' }) : wpAny (model prog w) A (Builtin.SmallTypes.nextOf (.ref it)) Q E s := by
  rcases hs with ⟨a, b⟩ | ⟨a, b⟩
  · exact wpAny_nextOf_list_item a b hx fun h' a' sb => hQ h' (.inl ⟨a', b.extBut sb.extBut ne⟩) sb
  · exact RZ.nextOf_tuple_item a b hx fun h' a' sb => hQ h' (.inr ⟨a', b.at fun o e => sb.extBut _ _ ne e⟩) sb
theorem next_end {it c : Nat} {k : Nat} {xs : Array Value} {Q : Value → Shared → Prop} (hh : A.handled = none) (hs : SrcIt s.heap it c k xs) (hx : xs[k]? = none)
    (hE : ∀ h' e, Heap.ExtBut it s.heap h' → (∃ o, h'.get? e = some o ∧ o.cls = .type "StopIteration") → E (.ref e) { s with heap := h' }) : wpAny (model prog w) A (Builtin.SmallTypes.nextOf (.ref it)) Q E s := by
  rcases hs with ⟨a, b⟩ | ⟨a, b⟩
  · exact wpAny_nextOf_list_end hh a b hx hE
  · exact RZ.nextOf_tuple_end hh a b hx hE
end
structure Srcs (h : Heap) (b : Nat) (cs : List (Nat × Array Value)) (k m : Nat) : Prop where
  it : ∀ (j : Nat) (c : Nat) (xs : Array Value), cs[j]? = some (c, xs) → SrcIt h (b + j) c (if j < m then k + 1 else k) xs
  lo : ∀ (j : Nat) (c : Nat) (xs : Array Value), cs[j]? = some (c, xs) → c < b
abbrev IsTupN (h : Heap) (T : Nat) (xs : Array Value) : Prop := h.get? T = some { cls := .type "tuple", data := .seq xs }
abbrev IsZ (h : Heap) (z TI TO : Nat) (f0 : Value) (f : Bool) : Prop := h.get? z = some { cls := .type "zip", dict := none, data := .fields #[f0, .bool f, .bool false, .ref TI, .ref TO], slots := #[] }
def itsN (b n : Nat) : Array Value := ((List.range n).map fun j => Value.ref (b + j)).toArray
theorem Srcs.same {h h' : Heap} {b : Nat} {cs : List (Nat × Array Value)} {k m : Nat} (s : Srcs h b cs k m) (e : ∀ a o, a < b + cs.length → h.get? a = some o → h'.get? a = some o) : Srcs h' b cs k m :=
  ⟨fun j c xs hj => (s.it j c xs hj).at (fun o q => e _ o (by have := (List.getElem?_eq_some_iff.mp hj).1; omega) q) (fun o q => e _ o (by have := s.lo j c xs hj; omega) q), s.lo⟩
section
variable {prog : Program} {w : World} {A : Around} {E : Value → Shared → Prop} {s : Shared}
theorem held_item {b z T : Nat} {cs : List (Nat × Array Value)} {k : Nat} {f : Bool} {oT : Obj} {Q : Value → Shared → Prop} (hz : IsZ s.heap z (b + cs.length) (b + cs.length + 1) (rawInt T) f) (hT : s.heap.get? T = some oT)
    (hzb : b + cs.length + 1 < z) (hTI : IsTupN s.heap (b + cs.length) (itsN b cs.length)) (hs : Srcs s.heap b cs k 0) (hn : cs ≠ []) (hlt : ∀ q ∈ cs, k < q.2.size) (hsz : cs.length ≤ sizeLine)
    (hQ : ∀ h', IsZ h' z (b + cs.length) (b + cs.length + 1) (rawInt T) true → Srcs h' b cs (k + 1) 0 → IsTupN h' s.heap.objs.size (cs.map fun q => q.2[k]?.getD .none).toArray → h'.objs.size = s.heap.objs.size + 1 →
      (∀ c o, c ≠ z → (c < b ∨ b + cs.length ≤ c) → s.heap.get? c = some o → h'.get? c = some o) → Q (.ref s.heap.objs.size) { s with heap := h' }) :
    wpAny (model prog w) A (Builtin.«zip.__next__» ⟨[.ref z], []⟩) (fun fin s' => ∃ v, fin = .done (.ret v) ∧ Q v s') E s := by
  have some_ : (itsN b cs.length).isEmpty = false := by
    unfold itsN
    cases cs with
    | nil => exact absurd rfl hn
    | cons q cs => simp
  unfold Builtin.«zip.__next__»
  generalize free : Builtin.SmallTypes.ownedTupleIsFree = F
  wp_walk using wpAny_seqItems hTI rfl
  subst free
  apply wpAny_tupleHeld_zip hz hT
  intro h1 hz1 hs1
  simp only [Bool.false_eq_true, ↓reduceIte]
  have key : ∀ j, j < cs.length → ∃ c xs x, cs[j]? = some (c, xs) ∧ xs[k]? = some x ∧ c < b := fun j hj => by
    have e := List.getElem?_eq_getElem hj
    have l := hlt _ (List.getElem_mem hj)
    exact ⟨_, _, _, e, Array.getElem?_eq_getElem l, hs.lo j _ _ e⟩
  refine wpAny_bind (wpAny_forIn_array' _ (fun rest st s' => ∃ (m : Nat) (h' : Heap), m ≤ cs.length ∧ rest = (itsN b cs.length).toList.drop m ∧ st = (none, ((cs.take m).map fun q => q.2[k]?.getD .none).toArray) ∧ s' = { s with heap := h' } ∧ Srcs h' b cs k m ∧ IsZ h' z (b + cs.length) (b + cs.length + 1) (rawInt T) true ∧ h'.objs.size = s.heap.objs.size ∧ ∀ c o, c ≠ z → (c < b ∨ b + cs.length ≤ c) → s.heap.get? c = some o → h'.get? c = some o) _ ?_ ?_ _ _ ?_)
  · rintro x rest st s' ⟨m, h', hm, er, rfl, rfl, hsr, hz', hsz', hk⟩
    have hlt' : m < cs.length := by
      apply Decidable.byContradiction
      intro z
      have : (itsN b cs.length).toList.drop m = [] := List.drop_eq_nil_of_le (by simp [itsN]; omega)
      rw [this] at er
      cases er
    obtain ⟨c, xs, v, e1, e2, e3⟩ := key m hlt'
    have ex : x = .ref (b + m) ∧ rest = (itsN b cs.length).toList.drop (m + 1) := by
      rw [List.drop_eq_getElem_cons (by simp [itsN]; exact hlt')] at er
      have := List.cons.inj er
      exact ⟨by rw [this.1]; simp [itsN], this.2⟩
    obtain ⟨rfl, rfl⟩ := ex
    refine wpAny_bind (wpAny_holding ?_)
    show wpAny _ _ (Builtin.SmallTypes.nextOf (.ref (b + m)) >>= _) _ _ _
    have hit := hsr.it m c xs e1
    rw [if_neg (Nat.lt_irrefl _)] at hit
    refine wpAny_bind (next_item (s := { s with heap := h' }) hit (by omega) e2 fun h2 hit2 sb => wpAny_pure ?_)
    refine wpAny_pure ⟨m + 1, h2, hlt', rfl, ?_, rfl, ⟨fun j c' xs' hj => ?_, hsr.lo⟩, sb.extBut _ _ (ne_ (by omega)) hz', by rw [sb.1]; exact hsz', fun c o h1 h2 h3 => sb.extBut _ _ (ne_ (by omega)) (hk c o h1 h2 h3)⟩
    · have : (cs.take (m + 1)).map (fun q => q.2[k]?.getD Value.none) = (cs.take m).map (fun q => q.2[k]?.getD Value.none) ++ [v] := by
        rw [List.take_add_one, e1, List.map_append]
        show _ ++ [xs[k]?.getD Value.none] = _
        rw [e2]
        rfl
      rw [this]
      simp
    · by_cases hjm : j = m
      · subst hjm
        rw [e1] at hj
        cases hj
        rw [if_pos (Nat.lt_succ_self _)]
        exact hit2
      · have h0 := hsr.it j c' xs' hj
        have hc := hsr.lo j c' xs' hj
        have ee : (if j < m + 1 then k + 1 else k) = if j < m then k + 1 else k := by
          by_cases hh : j < m
          · rw [if_pos hh, if_pos (by omega)]
          · rw [if_neg hh, if_neg (by omega)]
        rw [ee]
        exact h0.at (fun o q => sb.extBut _ _ (ne_ (by omega)) q) fun o q => sb.extBut _ _ (ne_ (by omega)) q
  · rintro st s' ⟨m, h', hm, er, rfl, rfl, hsr, hz', hsz', hk⟩
    have hme : m = cs.length := by
      apply Decidable.byContradiction
      intro z
      have : (itsN b cs.length).toList.drop m ≠ [] := by
        intro e
        have := congrArg List.length e
        simp [itsN] at this
        omega
      exact this er.symm
    subst hme
    rw [List.take_length]
    show wpAny _ _ (newTuple _ >>= _) _ _ _
    refine wpAny_bind (wpAny_newTuple (wpAny_pure ⟨_, rfl, ?_⟩) (by simpa using hsz))
    show Q (.ref h'.objs.size) _
    have e0 : (h'.push { cls := .type "tuple", data := .seq (cs.map fun q => q.2[k]?.getD Value.none).toArray }).get? h'.objs.size = some _ := Heap.get?_push_size _ rfl
    have e1 : (h'.push { cls := .type "tuple", data := .seq (cs.map fun q => q.2[k]?.getD Value.none).toArray }).objs.size = h'.objs.size + 1 := Heap.size_push ..
    rw [hsz'] at e0 e1 ⊢
    refine hQ _ (Heap.get?_push_of_some _ hz') ⟨fun j c xs hj => ?_, hsr.lo⟩ (by simpa using e0) (by simpa using e1) fun c o h1 h2 h3 => Heap.get?_push_of_some _ (hk c o h1 h2 h3)
    have h0 := hsr.it j c xs hj
    rw [if_pos (List.getElem?_eq_some_iff.mp hj).1] at h0
    rw [if_neg (Nat.not_lt_zero _)]
    exact h0.at (fun o q => Heap.get?_push_of_some _ q) fun o q => Heap.get?_push_of_some _ q
  · refine ⟨0, h1, Nat.zero_le _, rfl, rfl, rfl, hs.same fun a o hl q => hs1.extBut _ _ (ne_ (by omega)) q, hz1, hs1.1, fun c o h1' _ h3 => hs1.extBut _ _ h1' h3⟩
end
end Zn

namespace Zn
open PySem
section
variable {prog : Program} {w : World} {A : Around} {E : Value → Shared → Prop} {s : Shared}
theorem its_cons {b m : Nat} {cs : List (Nat × Array Value)} {x : Value} {rest : List Value} (er : x :: rest = (itsN b cs.length).toList.drop m) : m < cs.length ∧ x = .ref (b + m) ∧ rest = (itsN b cs.length).toList.drop (m + 1) := by
  have hlt' : m < cs.length := by
    apply Decidable.byContradiction
    intro z
    have : (itsN b cs.length).toList.drop m = [] := List.drop_eq_nil_of_le (by simp [itsN]; omega)
    rw [this] at er
    cases er
  refine ⟨hlt', ?_⟩
  rw [List.drop_eq_getElem_cons (by simp [itsN]; exact hlt')] at er
  have := List.cons.inj er
  exact ⟨by rw [this.1]; simp [itsN], this.2⟩
theorem its_nil {b m : Nat} {cs : List (Nat × Array Value)} (hm : m ≤ cs.length) (er : [] = (itsN b cs.length).toList.drop m) : m = cs.length := by
  have := congrArg List.length er
  simp [itsN] at this
  omega
theorem its_ne {b : Nat} {cs : List (Nat × Array Value)} (hn : cs ≠ []) : (itsN b cs.length).isEmpty = false := by
  unfold itsN
  cases cs with
  | nil => exact absurd rfl hn
  | cons q cs => simp
theorem Srcs.step {h' h2 : Heap} {b k m : Nat} {cs : List (Nat × Array Value)} {c : Nat} {xs : Array Value} (hsr : Srcs h' b cs k m) (e1 : cs[m]? = some (c, xs)) (hit2 : SrcIt h2 (b + m) c (k + 1) xs) (sb : Heap.SameBut (b + m) h' h2) : Srcs h2 b cs k (m + 1) := by
  refine ⟨fun j c' xs' hj => ?_, hsr.lo⟩
  by_cases hjm : j = m
  · subst hjm
    rw [e1] at hj
    cases hj
    rw [if_pos (Nat.lt_succ_self _)]
    exact hit2
  · have h0 := hsr.it j c' xs' hj
    have hc := hsr.lo j c' xs' hj
    have ee : (if j < m + 1 then k + 1 else k) = if j < m then k + 1 else k := by
      by_cases hh : j < m
      · rw [if_pos hh, if_pos (by omega)]
      · rw [if_neg hh, if_neg (by omega)]
    rw [ee]
    exact h0.at (fun o q => sb.extBut _ _ (ne_ (by omega)) q) fun o q => sb.extBut _ _ (ne_ (by omega)) q
theorem Srcs.all {h : Heap} {b k : Nat} {cs : List (Nat × Array Value)} (hsr : Srcs h b cs k cs.length) : Srcs h b cs (k + 1) 0 := ⟨fun j c xs hj => by
  have h0 := hsr.it j c xs hj
  rw [if_pos (List.getElem?_eq_some_iff.mp hj).1] at h0
  rw [if_neg (Nat.not_lt_zero _)]
  exact h0, hsr.lo⟩
theorem held_end {b z T : Nat} {cs : List (Nat × Array Value)} {k : Nat} {f : Bool} {oT : Obj} {Q : Fin → Shared → Prop} (hh : A.handled = none) (hz : IsZ s.heap z (b + cs.length) (b + cs.length + 1) (rawInt T) f) (hT : s.heap.get? T = some oT)
    (hzb : b + cs.length + 1 < z) (hTI : IsTupN s.heap (b + cs.length) (itsN b cs.length)) (hs : Srcs s.heap b cs k 0) (hend : ∃ q ∈ cs, q.2.size ≤ k)
    (hE : ∀ h' e, (∀ c o, c ≠ z → (c < b ∨ b + cs.length ≤ c) → s.heap.get? c = some o → h'.get? c = some o) → (∃ o, h'.get? e = some o ∧ o.cls = .type "StopIteration") → E (.ref e) { s with heap := h' }) :
    wpAny (model prog w) A (Builtin.«zip.__next__» ⟨[.ref z], []⟩) Q E s := by
  have some_ : (itsN b cs.length).isEmpty = false := its_ne (b := b) (cs := cs) (fun e => by rw [e] at hend; obtain ⟨q, hq, _⟩ := hend; cases hq)
  unfold Builtin.«zip.__next__»
  generalize free : Builtin.SmallTypes.ownedTupleIsFree = F
  wp_walk using wpAny_seqItems hTI rfl
  subst free
  apply wpAny_tupleHeld_zip hz hT
  intro h1 hz1 hs1
  simp only [Bool.false_eq_true, ↓reduceIte]
  refine wpAny_bind (wpAny_forIn_array' _ (fun rest st s' => ∃ (m : Nat) (h' : Heap), m ≤ cs.length ∧ rest = (itsN b cs.length).toList.drop m ∧ (∃ its, st = (none, its)) ∧ s' = { s with heap := h' } ∧ Srcs h' b cs k m ∧ (∀ j c xs, j < m → cs[j]? = some (c, xs) → k < xs.size) ∧ ∀ c o, c ≠ z → (c < b ∨ b + cs.length ≤ c) → s.heap.get? c = some o → h'.get? c = some o) _ ?_ ?_ _ _ ?_)
  · rintro x rest st s' ⟨m, h', hm, er, ⟨its, rfl⟩, rfl, hsr, hb, hk⟩
    obtain ⟨hlt', rfl, rfl⟩ := its_cons er
    obtain ⟨c, xs, e1⟩ : ∃ c xs, cs[m]? = some (c, xs) := ⟨_, _, List.getElem?_eq_getElem hlt'⟩
    have e3 := hsr.lo m c xs e1
    refine wpAny_bind (wpAny_holding ?_)
    show wpAny _ _ (Builtin.SmallTypes.nextOf (.ref (b + m)) >>= _) _ _ _
    have hit := hsr.it m c xs e1
    rw [if_neg (Nat.lt_irrefl _)] at hit
    cases e2 : xs[k]? with
    | some v =>
      refine wpAny_bind (next_item (s := { s with heap := h' }) hit (by omega) e2 fun h2 hit2 sb => wpAny_pure ?_)
      refine wpAny_pure ⟨m + 1, h2, hlt', rfl, ⟨_, rfl⟩, rfl, hsr.step e1 hit2 sb, fun j c' xs' hj ej => ?_, fun c o h1 h2 h3 => sb.extBut _ _ (ne_ (by omega)) (hk c o h1 h2 h3)⟩
      by_cases hjm : j = m
      · subst hjm
        rw [e1] at ej
        cases ej
        exact (Array.getElem?_eq_some_iff.mp e2).1
      · exact hb j c' xs' (by omega) ej
    | none =>
      exact wpAny_bind (next_end (s := { s with heap := h' }) hh hit e2 fun h2 e sb he => hE h2 e (fun c o h1 h2 h3 => sb _ _ (ne_ (by omega)) (hk c o h1 h2 h3)) he)
  · rintro st s' ⟨m, h', hm, er, ⟨its, rfl⟩, rfl, hsr, hb, hk⟩
    have := its_nil hm er
    subst this
    obtain ⟨q, hq, hqk⟩ := hend
    obtain ⟨j, hj⟩ := List.mem_iff_getElem?.mp hq
    have := hb j q.1 q.2 (List.getElem?_eq_some_iff.mp hj).1 hj
    omega
  · exact ⟨0, h1, Nat.zero_le _, rfl, ⟨_, rfl⟩, rfl, hs.same fun a o hl q => hs1.extBut _ _ (ne_ (by omega)) q, fun j c xs hj => by omega, fun c o h1' _ h3 => hs1.extBut _ _ h1' h3⟩
def upTO (cs : List (Nat × Array Value)) (os : Array Value) (k m : Nat) : Array Value := ((cs.take m).map (fun q => q.2[k]?.getD Value.none) ++ os.toList.drop m).toArray
theorem upTO_zero {cs : List (Nat × Array Value)} {os : Array Value} {k : Nat} : upTO cs os k 0 = os := by simp [upTO]
theorem upTO_all {cs : List (Nat × Array Value)} {os : Array Value} {k : Nat} (h : os.size = cs.length) : upTO cs os k cs.length = (cs.map fun q => q.2[k]?.getD Value.none).toArray := by
  unfold upTO
  rw [List.take_length, List.drop_eq_nil_of_le (by simp [h]), List.append_nil]
theorem upTO_size {cs : List (Nat × Array Value)} {os : Array Value} {k m : Nat} (h : os.size = cs.length) (hm : m ≤ cs.length) : (upTO cs os k m).size = cs.length := by
  simp [upTO]
  omega
theorem upTO_set {cs : List (Nat × Array Value)} {os : Array Value} {k m c : Nat} {xs : Array Value} {v : Value} (e1 : cs[m]? = some (c, xs)) (e2 : xs[k]? = some v) (h : m < os.size) : (upTO cs os k m).setIfInBounds m v = upTO cs os k (m + 1) := by
  have hm : m < cs.length := (List.getElem?_eq_some_iff.mp e1).1
  unfold upTO
  rw [List.setIfInBounds_toArray, List.take_add_one, e1, List.map_append]
  congr 1
  rw [List.set_append_right _ _ (by simp; omega)]
  have hl : m - ((cs.take m).map fun q => q.2[k]?.getD Value.none).length = 0 := by simp; omega
  rw [hl, List.drop_eq_getElem_cons (by simpa using h), List.append_assoc]
  congr 1
  simp [e2]
theorem free_item {b z : Nat} {cs : List (Nat × Array Value)} {os : Array Value} {k : Nat} {Q : Value → Shared → Prop} (hz : IsZ s.heap z (b + cs.length) (b + cs.length + 1) .none false)
    (hzb : b + cs.length + 1 < z) (hTI : IsTupN s.heap (b + cs.length) (itsN b cs.length)) (hTO : IsTupN s.heap (b + cs.length + 1) os) (hos : os.size = cs.length) (hs : Srcs s.heap b cs k 0) (hn : cs ≠ []) (hlt : ∀ q ∈ cs, k < q.2.size) (hsz : cs.length ≤ sizeLine)
    (hQ : ∀ h', IsZ h' z (b + cs.length) (b + cs.length + 1) (rawInt s.heap.objs.size) false → Srcs h' b cs (k + 1) 0 → IsTupN h' s.heap.objs.size (cs.map fun q => q.2[k]?.getD .none).toArray → IsTupN h' (b + cs.length + 1) (cs.map fun q => q.2[k]?.getD .none).toArray → h'.objs.size = s.heap.objs.size + 1 →
      (∀ c o, c ≠ z → c ≠ b + cs.length + 1 → (c < b ∨ b + cs.length ≤ c) → s.heap.get? c = some o → h'.get? c = some o) → Q (.ref s.heap.objs.size) { s with heap := h' }) :
    wpAny (model prog w) A (Builtin.«zip.__next__» ⟨[.ref z], []⟩) (fun fin s' => ∃ v, fin = .done (.ret v) ∧ Q v s') E s := by
  have some_ : (itsN b cs.length).isEmpty = false := its_ne (b := b) (cs := cs) hn
  unfold Builtin.«zip.__next__»
  generalize put : setField = S
  wp_walk using wpAny_seqItems hTI rfl
  subst put
  apply wpAny_setField_rec hz (by simp)
  intro g0 hz0 hs0
  replace hz0 : IsZ g0 z (b + cs.length) (b + cs.length + 1) .ellipsis false := hz0
  replace hs0 : Heap.SameBut z s.heap g0 := hs0
  have key : ∀ j, j < cs.length → ∃ c xs x, cs[j]? = some (c, xs) ∧ xs[k]? = some x ∧ c < b := fun j hj => by
    have e := List.getElem?_eq_getElem hj
    have l := hlt _ (List.getElem_mem hj)
    exact ⟨_, _, _, e, Array.getElem?_eq_getElem l, hs.lo j _ _ e⟩
  refine wpAny_bind (wpAny_forIn_list _ (fun rest st s' => ∃ (m : Nat) (h' : Heap), m ≤ cs.length ∧ rest = ((itsN b cs.length).toList.drop m).zipIdx m ∧ st = (none, ()) ∧ s' = { s with heap := h' } ∧ Srcs h' b cs k m ∧ IsZ h' z (b + cs.length) (b + cs.length + 1) .ellipsis false ∧ IsTupN h' (b + cs.length + 1) (upTO cs os k m) ∧ h'.objs.size = s.heap.objs.size ∧ ∀ c o, c ≠ z → c ≠ b + cs.length + 1 → (c < b ∨ b + cs.length ≤ c) → s.heap.get? c = some o → h'.get? c = some o) _ ?_ ?_ _ _ ?_)
  · rintro ⟨x, i⟩ rest st s' ⟨m, h', hm, er, rfl, rfl, hsr, hz', hT', hsz', hk⟩
    obtain ⟨rest', er1, ei, er2⟩ : ∃ rest', (itsN b cs.length).toList.drop m = x :: rest' ∧ i = m ∧ rest = rest'.zipIdx (m + 1) := by
      cases e : (itsN b cs.length).toList.drop m with
      | nil => rw [e] at er; cases er
      | cons y ys =>
        rw [e, List.zipIdx_cons] at er
        have := List.cons.inj er
        cases this.1
        exact ⟨ys, rfl, rfl, this.2⟩
    subst ei er2
    obtain ⟨hlt', rfl, rfl⟩ := its_cons er1.symm
    obtain ⟨c, xs, v, e1, e2, e3⟩ := key i hlt'
    refine wpAny_bind (wpAny_onRaise ?_)
    show wpAny _ _ (Builtin.SmallTypes.nextOf (.ref (b + i)) >>= _) _ _ _
    have hit := hsr.it i c xs e1
    rw [if_neg (Nat.lt_irrefl _)] at hit
    refine wpAny_bind (next_item (s := { s with heap := h' }) hit (by omega) e2 fun h2 hit2 sb => wpAny_pure ?_)
    have hT2 : IsTupN h2 (b + cs.length + 1) (upTO cs os k i) := sb.extBut _ _ (ne_ (by omega)) hT'
    refine wpAny_bind (wpAny_seqItems hT2 rfl ?_)
    have hus : (upTO cs os k i).size = cs.length := upTO_size hos hm
    refine wpAny_bind (wpAny_updateSeq (s := { s with heap := h2 }) hT2 rfl ?_ (by rw [hus]; exact hsz) (by rw [Array.size_setIfInBounds, hus]; omega))
    refine wpAny_bind (wpAny_letGo (wpAny_pure ?_))
    have e4 := Heap.get?_update_self (Obj.mapSeq (·.setIfInBounds i v)) hT2 rfl
    have sb2 : Heap.SameBut (b + cs.length + 1) h2 (h2.update (b + cs.length + 1) (Obj.mapSeq (·.setIfInBounds i v))) := Heap.SameBut.update ..
    refine ⟨i + 1, _, hlt', rfl, rfl, rfl, (hsr.step e1 hit2 sb).same fun a o hl q => sb2.extBut _ _ (ne_ (by omega)) q, sb2.extBut _ _ (ne_ (by omega)) (sb.extBut _ _ (ne_ (by omega)) hz'), ?_, by rw [sb2.1, sb.1]; exact hsz', fun c o h1 h2 h3 h4 => sb2.extBut _ _ (ne_ (by omega)) (sb.extBut _ _ (ne_ (by omega)) (hk c o h1 h2 h3 h4))⟩
    rw [← upTO_set e1 e2 (by omega)]
    simpa [Obj.mapSeq] using e4
  · rintro st s' ⟨m, h', hm, er, rfl, rfl, hsr, hz', hT', hsz', hk⟩
    have hme : m = cs.length := by
      refine its_nil (b := b) hm ?_
      cases e : (itsN b cs.length).toList.drop m with
      | nil => rfl
      | cons y ys => rw [e] at er; cases er
    subst hme
    rw [upTO_all hos] at hT'
    show wpAny _ _ (seqItems? _ >>= _) _ _ _
    refine wpAny_bind (wpAny_seqItems hT' rfl ?_)
    refine wpAny_bind (wpAny_newTuple ?_ (by simpa using hsz))
    have hzlt : z < h'.objs.size := Heap.lt_size hz'
    show wpAny _ _ (Builtin.SmallTypes.ownedTupleHandOut (.ref z) (.ref h'.objs.size) >>= _) _ _ _
    refine wpAny_bind ?_
    unfold Builtin.SmallTypes.ownedTupleHandOut
    have hz6 : IsZ (h'.push { cls := .type "tuple", data := .seq (cs.map fun q => q.2[k]?.getD Value.none).toArray }) z (b + cs.length) (b + cs.length + 1) .ellipsis false := Heap.get?_push_of_some _ hz'
    refine wpAny_bind (wpAny_setField_rec hz6 (by simp) fun h7 hz7 hs7 => ?_)
    replace hz7 : IsZ h7 z (b + cs.length) (b + cs.length + 1) (rawInt h'.objs.size) false := hz7
    refine wpAny_setField_rec hz7 (by simp) fun h8 hz8 hs8 => ?_
    replace hz8 : IsZ h8 z (b + cs.length) (b + cs.length + 1) (rawInt h'.objs.size) false := hz8
    replace hs7 : Heap.SameBut z (h'.push { cls := .type "tuple", data := .seq (cs.map fun q => q.2[k]?.getD Value.none).toArray }) h7 := hs7
    replace hs8 : Heap.SameBut z h7 h8 := hs8
    have up : ∀ c o, c ≠ z → h'.get? c = some o → h8.get? c = some o := fun c o c1 e => hs8.extBut _ _ c1 (hs7.extBut _ _ c1 (Heap.get?_push_of_some _ e))
    have hT8 : IsTupN h8 h'.objs.size (cs.map fun q => q.2[k]?.getD Value.none).toArray := hs8.extBut _ _ (Nat.ne_of_gt hzlt) (hs7.extBut _ _ (Nat.ne_of_gt hzlt) (Heap.get?_push_size _ rfl))
    have hz9 : h8.objs.size = h'.objs.size + 1 := by rw [hs8.1, hs7.1, Heap.size_push]
    refine wpAny_pure ⟨_, rfl, ?_⟩
    rw [hsz'] at hz8 hT8 hz9
    show Q (.ref h'.objs.size) { s with heap := h8 }
    rw [hsz']
    exact hQ h8 hz8 (hsr.all.same fun a o hl q => up a o (ne_ (by omega)) q) hT8 (up _ _ (ne_ (by omega)) hT') hz9 fun c o h1 h2 h3 h4 => up c o h1 (hk c o h1 h2 h3 h4)
  · exact ⟨0, g0, Nat.zero_le _, rfl, rfl, rfl, hs.same fun a o hl q => hs0.extBut _ _ (ne_ (by omega)) q, hz0, by rw [upTO_zero]; exact hs0.extBut _ _ (ne_ (by omega)) hTO, hs0.1, fun c o h1 _ _ h4 => hs0.extBut _ _ h1 h4⟩
theorem free_end {b z : Nat} {cs : List (Nat × Array Value)} {os : Array Value} {k : Nat} {Q : Fin → Shared → Prop} (hh : A.handled = none) (hz : IsZ s.heap z (b + cs.length) (b + cs.length + 1) .none false)
    (hzb : b + cs.length + 1 < z) (hTI : IsTupN s.heap (b + cs.length) (itsN b cs.length)) (hTO : IsTupN s.heap (b + cs.length + 1) os) (hos : os.size = cs.length) (hs : Srcs s.heap b cs k 0) (hend : ∃ q ∈ cs, q.2.size ≤ k) (hsz : cs.length ≤ sizeLine)
    (hE : ∀ h' e, (∀ c o, c ≠ z → c ≠ b + cs.length + 1 → (c < b ∨ b + cs.length ≤ c) → s.heap.get? c = some o → h'.get? c = some o) → (∃ o, h'.get? e = some o ∧ o.cls = .type "StopIteration") → E (.ref e) { s with heap := h' }) :
    wpAny (model prog w) A (Builtin.«zip.__next__» ⟨[.ref z], []⟩) Q E s := by
  have some_ : (itsN b cs.length).isEmpty = false := its_ne (b := b) (cs := cs) (fun e => by rw [e] at hend; obtain ⟨q, hq, _⟩ := hend; cases hq)
  unfold Builtin.«zip.__next__»
  generalize put : setField = S
  wp_walk using wpAny_seqItems hTI rfl
  subst put
  apply wpAny_setField_rec hz (by simp)
  intro g0 hz0 hs0
  replace hz0 : IsZ g0 z (b + cs.length) (b + cs.length + 1) .ellipsis false := hz0
  replace hs0 : Heap.SameBut z s.heap g0 := hs0
  refine wpAny_bind (wpAny_forIn_list _ (fun rest st s' => ∃ (m : Nat) (h' : Heap), m ≤ cs.length ∧ rest = ((itsN b cs.length).toList.drop m).zipIdx m ∧ st = (none, ()) ∧ s' = { s with heap := h' } ∧ Srcs h' b cs k m ∧ IsZ h' z (b + cs.length) (b + cs.length + 1) .ellipsis false ∧ IsTupN h' (b + cs.length + 1) (upTO cs os k m) ∧ (∀ j c xs, j < m → cs[j]? = some (c, xs) → k < xs.size) ∧ ∀ c o, c ≠ z → c ≠ b + cs.length + 1 → (c < b ∨ b + cs.length ≤ c) → s.heap.get? c = some o → h'.get? c = some o) _ ?_ ?_ _ _ ?_)
  · rintro ⟨x, i⟩ rest st s' ⟨m, h', hm, er, rfl, rfl, hsr, hz', hT', hb, hk⟩
    obtain ⟨rest', er1, ei, er2⟩ : ∃ rest', (itsN b cs.length).toList.drop m = x :: rest' ∧ i = m ∧ rest = rest'.zipIdx (m + 1) := by
      cases e : (itsN b cs.length).toList.drop m with
      | nil => rw [e] at er; cases er
      | cons y ys =>
        rw [e, List.zipIdx_cons] at er
        have := List.cons.inj er
        cases this.1
        exact ⟨ys, rfl, rfl, this.2⟩
    subst ei er2
    obtain ⟨hlt', rfl, rfl⟩ := its_cons er1.symm
    obtain ⟨c, xs, e1⟩ : ∃ c xs, cs[i]? = some (c, xs) := ⟨_, _, List.getElem?_eq_getElem hlt'⟩
    have e3 := hsr.lo i c xs e1
    refine wpAny_bind (wpAny_onRaise ?_)
    show wpAny _ _ (Builtin.SmallTypes.nextOf (.ref (b + i)) >>= _) _ _ _
    have hit := hsr.it i c xs e1
    rw [if_neg (Nat.lt_irrefl _)] at hit
    cases e2 : xs[k]? with
    | none =>
      refine wpAny_bind (next_end (s := { s with heap := h' }) hh hit e2 fun h2 e sb he => ?_)
      have hz2 : IsZ h2 z (b + cs.length) (b + cs.length + 1) .ellipsis false := sb _ _ (ne_ (by omega)) hz'
      obtain ⟨oe, hoe, hce⟩ := he
      have hez : e ≠ z := fun x => by subst x; rw [hz2] at hoe; cases hoe; simp at hce
      refine wpAny_setField_rec (s := { s with heap := h2 }) hz2 (by simp) fun h3 _ hs3 => hE h3 e (fun c o h1 h2 h3' h4 => hs3.extBut _ _ h1 (sb _ _ (ne_ (by omega)) (hk c o h1 h2 h3' h4))) ⟨oe, hs3.extBut _ _ hez hoe, hce⟩
    | some v =>
      refine wpAny_bind (next_item (s := { s with heap := h' }) hit (by omega) e2 fun h2 hit2 sb => wpAny_pure ?_)
      have hT2 : IsTupN h2 (b + cs.length + 1) (upTO cs os k i) := sb.extBut _ _ (ne_ (by omega)) hT'
      refine wpAny_bind (wpAny_seqItems hT2 rfl ?_)
      have hus : (upTO cs os k i).size = cs.length := upTO_size hos hm
      refine wpAny_bind (wpAny_updateSeq (s := { s with heap := h2 }) hT2 rfl ?_ (by rw [hus]; exact hsz) (by rw [Array.size_setIfInBounds, hus]; omega))
      refine wpAny_bind (wpAny_letGo (wpAny_pure ?_))
      have e4 := Heap.get?_update_self (Obj.mapSeq (·.setIfInBounds i v)) hT2 rfl
      have sb2 : Heap.SameBut (b + cs.length + 1) h2 (h2.update (b + cs.length + 1) (Obj.mapSeq (·.setIfInBounds i v))) := Heap.SameBut.update ..
      refine ⟨i + 1, _, hlt', rfl, rfl, rfl, (hsr.step e1 hit2 sb).same fun a o hl q => sb2.extBut _ _ (ne_ (by omega)) q, sb2.extBut _ _ (ne_ (by omega)) (sb.extBut _ _ (ne_ (by omega)) hz'), ?_, fun j c' xs' hj ej => ?_, fun c o h1 h2 h3 h4 => sb2.extBut _ _ (ne_ (by omega)) (sb.extBut _ _ (ne_ (by omega)) (hk c o h1 h2 h3 h4))⟩
      · rw [← upTO_set e1 e2 (by omega)]
        simpa [Obj.mapSeq] using e4
      · by_cases hjm : j = i
        · subst hjm
          rw [e1] at ej
          cases ej
          exact (Array.getElem?_eq_some_iff.mp e2).1
        · exact hb j c' xs' (by omega) ej
  · rintro st s' ⟨m, h', hm, er, rfl, rfl, hsr, hz', hT', hb, hk⟩
    have hme : m = cs.length := by
      refine its_nil (b := b) hm ?_
      cases e : (itsN b cs.length).toList.drop m with
      | nil => rfl
      | cons y ys => rw [e] at er; cases er
    subst hme
    obtain ⟨q, hq, hqk⟩ := hend
    obtain ⟨j, hj⟩ := List.mem_iff_getElem?.mp hq
    have := hb j q.1 q.2 (List.getElem?_eq_some_iff.mp hj).1 hj
    omega
  · exact ⟨0, g0, Nat.zero_le _, rfl, rfl, rfl, hs.same fun a o hl q => hs0.extBut _ _ (ne_ (by omega)) q, hz0, by rw [upTO_zero]; exact hs0.extBut _ _ (ne_ (by omega)) hTO, fun j c xs hj => by omega, fun c o h1 _ _ h4 => hs0.extBut _ _ h1 h4⟩
end
end Zn

namespace Zn
open PySem
structure Zst (h : Heap) (b : Nat) (cs : List (Nat × Array Value)) (k : Nat) : Prop where
  ti : IsTupN h (b + cs.length) (itsN b cs.length)
  sr : Srcs h b cs k 0
  st : (∃ os, IsZ h (b + cs.length + 2) (b + cs.length) (b + cs.length + 1) .none false ∧ IsTupN h (b + cs.length + 1) os ∧ os.size = cs.length) ∨ ∃ (T : Nat) (f : Bool) (oT : Obj), IsZ h (b + cs.length + 2) (b + cs.length) (b + cs.length + 1) (rawInt T) f ∧ h.get? T = some oT ∧ b + cs.length + 2 < T
theorem Zst.typ {s : Shared} {b : Nat} {cs : List (Nat × Array Value)} {k : Nat} (z : Zst s.heap b cs k) : s.TypeIs (.ref (b + cs.length + 2)) "zip" := by
  rcases z.st with ⟨os, h, _⟩ | ⟨T, f, oT, h, _⟩
  · exact ⟨_, h, rfl⟩
  · exact ⟨_, h, rfl⟩
theorem Zst.keep {h h' : Heap} {b : Nat} {cs : List (Nat × Array Value)} {k : Nat} (z : Zst h b cs k) (e : ∀ a o, a ≤ b + cs.length + 2 → h.get? a = some o → h'.get? a = some o) (e2 : ∀ a o, h.get? a = some o → ∃ o', h'.get? a = some o') : Zst h' b cs k := by
  refine ⟨e _ _ (by omega) z.ti, z.sr.same fun a o hl q => e a o (by omega) q, ?_⟩
  rcases z.st with ⟨os, h1, h2, h3⟩ | ⟨T, f, oT, h1, h2, h3⟩
  · exact .inl ⟨os, e _ _ (by omega) h1, e _ _ (by omega) h2, h3⟩
  · obtain ⟨o', ho⟩ := e2 T oT h2
    exact .inr ⟨T, f, o', e _ _ (by omega) h1, ho, h3⟩
section
variable {prog : Program} {w : World} {A : Around} {E : Value → Shared → Prop} {s : Shared}
theorem next_road {p : Nat} {Q : Option Value → Shared → Prop} (ty : s.TypeIs (.ref p) "zip")
    (own : wpAny (model prog w) A.in1 (Builtin.«zip.__next__» ⟨[.ref p], []⟩) (fun fin s' => ∃ v, fin = .done (.ret v) ∧ Q (some v) s') (fun e s' => ∃ a o, e = .ref a ∧ s'.heap.get? a = some o ∧ o.cls = .type "StopIteration" ∧ Q none s') s) :
    wpAny (model prog w) A (pyNext (.ref p)) Q E s := by
  unfold pyNext
  apply wpAny_bind
  apply wpAny_attempt
  apply wpAny_callSpecial?_slot ty F.slot_zip_next
  apply wpAny_call_entry F.slot_zip_next ty F.entry_zip_next _ (F.args_zip_next_1 _)
  apply wpAny_mono own
  · rintro _ s' ⟨v, rfl, q⟩
    exact ⟨v, rfl, wpAny_pure q⟩
  · rintro _ s' ⟨a, o, rfl, at_, stop, q⟩
    apply wpAny_bind
    exact wpAny_isInstance ⟨o, at_, stop⟩ isSubtype_stop (wpAny_pure q)
end
structure Mde (cs : List (Nat × Array Value)) (lo : Nat) (h : Heap) (as : List Nat) : Prop where
  rise : as.Pairwise (· < ·)
  above : ∀ a ∈ as, lo < a
  there : ∀ (j a : Nat), as[j]? = some a → IsTupN h a (cs.map fun q => q.2[j]?.getD .none).toArray
section
variable {prog : Program} {w : World} {A : Around} {s : Shared} {R : Result → Shared → Prop}
theorem Mde.more {cs : List (Nat × Array Value)} {S n : Nat} {h h2 : Heap} {as : List Nat} (g : Mde cs S h as) (S0 : S < n) (low : ∀ a ∈ as, a < n) (keep : ∀ a o, S < a → h.get? a = some o → h2.get? a = some o) (new : IsTupN h2 n (cs.map fun q => q.2[as.length]?.getD .none).toArray) : Mde cs S h2 (as ++ [n]) := by
  refine ⟨List.pairwise_append.mpr ⟨g.rise, List.pairwise_singleton _ _, fun a ha c hc => ?_⟩, fun a ha => ?_, fun j a hj => ?_⟩
  · rw [List.mem_singleton.mp hc]
    exact low a ha
  · rcases List.mem_append.mp ha with h1 | h1
    · exact g.above a h1
    · rw [List.mem_singleton.mp h1]
      exact S0
  · have lt := (List.getElem?_eq_some_iff.mp hj).1
    simp only [List.length_append, List.length_singleton] at lt
    by_cases last : j = as.length
    · subst last
      obtain rfl : n = a := by simpa using hj
      exact new
    · rw [List.getElem?_append_left (by omega)] at hj
      exact keep a _ (g.above a (List.mem_of_getElem? hj)) (g.there j a hj)
end
section
variable {prog : Program} {w : World} {A : Around} {E : Value → Shared → Prop} {s : Shared}
end
end Zn

namespace Zn
open PySem PySem.F
theorem typeCall_zip (as : List Value) : checkTypeCall "zip" ⟨as, []⟩ = pure () := by kernel_rfl
theorem newCall_zip : ∀ (as : List Value), as.length ≤ 16 → checkBuiltinCall "zip.__new__" ⟨.type "zip" :: as, []⟩ = pure ()
  | [], _ => by kernel_rfl
  | [_], _ => by kernel_rfl
  | [_, _], _ => by kernel_rfl
  | [_, _, _], _ => by kernel_rfl
  | [_, _, _, _], _ => by kernel_rfl
  | [_, _, _, _, _], _ => by kernel_rfl
  | [_, _, _, _, _, _], _ => by kernel_rfl
  | [_, _, _, _, _, _, _], _ => by kernel_rfl
  | [_, _, _, _, _, _, _, _], _ => by kernel_rfl
  | [_, _, _, _, _, _, _, _, _], _ => by kernel_rfl
  | [_, _, _, _, _, _, _, _, _, _], _ => by kernel_rfl
  | [_, _, _, _, _, _, _, _, _, _, _], _ => by kernel_rfl
  | [_, _, _, _, _, _, _, _, _, _, _, _], _ => by kernel_rfl
  | [_, _, _, _, _, _, _, _, _, _, _, _, _], _ => by kernel_rfl
  | [_, _, _, _, _, _, _, _, _, _, _, _, _, _], _ => by kernel_rfl
  | [_, _, _, _, _, _, _, _, _, _, _, _, _, _, _], _ => by kernel_rfl
  | [_, _, _, _, _, _, _, _, _, _, _, _, _, _, _, _], _ => by kernel_rfl
  | _ :: _ :: _ :: _ :: _ :: _ :: _ :: _ :: _ :: _ :: _ :: _ :: _ :: _ :: _ :: _ :: _ :: _, h => by simp at h
theorem args_oinit (a : Value) (as : List Value) (few : as.length ≤ 16) : argsOk "object.__init__" ⟨a :: as, []⟩ := by
  unfold argsOk
  rw [signature?_of (id := "object.__init__") (n := "__tini__".toList) (o := "tcejbo".toList) (by kernel_rfl) owner_object]
  exact match as, few with
  | [], _ => by kernel_rfl
  | [_], _ => by kernel_rfl
  | [_, _], _ => by kernel_rfl
  | [_, _, _], _ => by kernel_rfl
  | [_, _, _, _], _ => by kernel_rfl
  | [_, _, _, _, _], _ => by kernel_rfl
  | [_, _, _, _, _, _], _ => by kernel_rfl
  | [_, _, _, _, _, _, _], _ => by kernel_rfl
  | [_, _, _, _, _, _, _, _], _ => by kernel_rfl
  | [_, _, _, _, _, _, _, _, _], _ => by kernel_rfl
  | [_, _, _, _, _, _, _, _, _, _], _ => by kernel_rfl
  | [_, _, _, _, _, _, _, _, _, _, _], _ => by kernel_rfl
  | [_, _, _, _, _, _, _, _, _, _, _, _], _ => by kernel_rfl
  | [_, _, _, _, _, _, _, _, _, _, _, _, _], _ => by kernel_rfl
  | [_, _, _, _, _, _, _, _, _, _, _, _, _, _], _ => by kernel_rfl
  | [_, _, _, _, _, _, _, _, _, _, _, _, _, _, _], _ => by kernel_rfl
  | [_, _, _, _, _, _, _, _, _, _, _, _, _, _, _, _], _ => by kernel_rfl
  | _ :: _ :: _ :: _ :: _ :: _ :: _ :: _ :: _ :: _ :: _ :: _ :: _ :: _ :: _ :: _ :: _ :: _, h => by simp at h
end Zn

namespace Zn
open PySem PySem.F
def SrcV (h : Heap) (c : Nat) (xs : Array Value) : Prop := h.IsList c xs ∨ h.IsTuple c xs
theorem SrcV.at {h h' : Heap} {c : Nat} {xs : Array Value} (v : SrcV h c xs) (k : ∀ o, h.get? c = some o → h'.get? c = some o) : SrcV h' c xs := by
  rcases v with a | a
  · exact .inl (a.at k)
  · exact .inr (a.at k)
section
variable {prog : Program} {w : World} {A : Around} {E : Value → Shared → Prop} {s : Shared}
theorem iter_src {c : Nat} {xs : Array Value} {Q : Value → Shared → Prop} (v : SrcV s.heap c xs)
    (h : ∀ h', SrcIt h' s.heap.objs.size c 0 xs → h'.objs.size = s.heap.objs.size + 1 → (∀ a o, s.heap.get? a = some o → h'.get? a = some o) → Q (.ref s.heap.objs.size) { s with heap := h' }) : wpAny (model prog w) A (pyIter (.ref c)) Q E s := by
  rcases v with a | a
  · exact wpAny_pyIter_list a (h _ (.inl ⟨⟨_, Heap.get?_push_size _ rfl, rfl, rfl⟩, a.at fun o e => Heap.get?_push_of_some _ e⟩) (Heap.size_push ..) fun b o e => Heap.get?_push_of_some _ e)
  · exact wpAny_pyIter_tuple a (h _ (.inr ⟨⟨_, Heap.get?_push_size _ rfl, rfl, rfl⟩, a.at fun o e => Heap.get?_push_of_some _ e⟩) (Heap.size_push ..) fun b o e => Heap.get?_push_of_some _ e)
theorem iterAll_src {cs : List (Nat × Array Value)} {Q : List Value → Shared → Prop} (hv : ∀ q ∈ cs, SrcV s.heap q.1 q.2) (hlo : ∀ q ∈ cs, q.1 < s.heap.objs.size)
    (h : ∀ h', Srcs h' s.heap.objs.size cs 0 0 → h'.objs.size = s.heap.objs.size + cs.length → (∀ a o, s.heap.get? a = some o → h'.get? a = some o) → Q (itsN s.heap.objs.size cs.length).toList { s with heap := h' }) :
    wpAny (model prog w) A (Builtin.SmallTypes.iterAll (cs.map fun q => .ref q.1)) Q E s := by
  unfold Builtin.SmallTypes.iterAll
  refine wpAny_bind (wpAny_forIn_list _ (fun rest st s' => ∃ (m : Nat) (h' : Heap), m ≤ cs.length ∧ rest = (cs.drop m).map (fun q => Value.ref q.1) ∧ st = (itsN s.heap.objs.size m) ∧ s' = { s with heap := h' } ∧ (∀ j c xs, j < m → cs[j]? = some (c, xs) → SrcIt h' (s.heap.objs.size + j) c 0 xs) ∧ h'.objs.size = s.heap.objs.size + m ∧ ∀ a o, s.heap.get? a = some o → h'.get? a = some o) _ ?_ ?_ _ _ ?_)
  · rintro x rest st s' ⟨m, h', hm, er, rfl, rfl, hsr, hsz, hk⟩
    have hlt : m < cs.length := by
      apply Decidable.byContradiction
      intro z
      rw [List.drop_eq_nil_of_le (by omega)] at er
      cases er
    rw [List.drop_eq_getElem_cons hlt, List.map_cons] at er
    obtain ⟨rfl, rfl⟩ := List.cons.inj er
    have e1 := List.getElem?_eq_getElem hlt
    have hq := List.getElem_mem hlt
    refine wpAny_bind (wpAny_holding (iter_src (s := { s with heap := h' }) ((hv _ hq).at fun o e => hk _ o e) fun h2 hit hz hk2 => wpAny_pure ⟨m + 1, h2, hlt, rfl, ?_, rfl, fun j c xs hj ej => ?_, ?_, fun a o e => hk2 a o (hk a o e)⟩))
    · show (itsN s.heap.objs.size m).push (.ref h'.objs.size) = _
      rw [hsz]
      unfold itsN
      rw [List.range_succ, List.map_append]
      simp
    · by_cases hjm : j = m
      · subst hjm
        rw [e1] at ej
        have := Option.some.inj ej
        have hit' : SrcIt h2 h'.objs.size cs[j].1 0 cs[j].2 := hit
        rw [this, hsz] at hit'
        exact hit'
      · exact (hsr j c xs (by omega) ej).at (fun o e => hk2 _ o e) fun o e => hk2 _ o e
    · rw [hz]
      show h'.objs.size + 1 = _
      omega
  · rintro st s' ⟨m, h', hm, er, rfl, rfl, hsr, hsz, hk⟩
    have : m = cs.length := by
      have := congrArg List.length er
      simp at this
      omega
    subst this
    exact wpAny_pure (h h' ⟨fun j c xs hj => by rw [if_neg (Nat.not_lt_zero _)]; exact hsr j c xs (List.getElem?_eq_some_iff.mp hj).1 hj, fun j c xs hj => hlo _ (List.mem_of_getElem? hj)⟩ hsz hk)
  · exact ⟨0, s.heap, Nat.zero_le _, rfl, rfl, rfl, fun j c xs hj => by omega, rfl, fun _ _ e => e⟩
end
def FreeZ (h : Heap) (b : Nat) (cs : List (Nat × Array Value)) : Prop := ∃ os, IsZ h (b + cs.length + 2) (b + cs.length) (b + cs.length + 1) .none false ∧ IsTupN h (b + cs.length + 1) os ∧ os.size = cs.length
theorem zip_new (cs : List (Nat × Array Value)) : Meets (Builtin.«zip.__new__» ⟨.type "zip" :: cs.map (fun q => .ref q.1), []⟩) (fun _ R s => (∀ q ∈ cs, SrcV s.heap q.1 q.2) ∧ (∀ q ∈ cs, q.1 < s.heap.objs.size) ∧ cs.length ≤ sizeLine ∧
    ∀ h', Zst h' s.heap.objs.size cs 0 → h'.objs.size = s.heap.objs.size + cs.length + 3 → (∀ a o, s.heap.get? a = some o → h'.get? a = some o) → FreeZ h' s.heap.objs.size cs → R (.ok (.ret (.ref (s.heap.objs.size + cs.length + 2)))) { s with heap := h' }) :=
  .of_wp fun prog w A R s h => by
    obtain ⟨hv, hlo, hsz, h⟩ := h
    have hsub := sub_zip
    have go : ∀ {A' : Around} {E : Value → Shared → Prop} {Q : List Value → Shared → Prop}, (∀ h', Srcs h' s.heap.objs.size cs 0 0 → h'.objs.size = s.heap.objs.size + cs.length → (∀ a o, s.heap.get? a = some o → h'.get? a = some o) → Q (itsN s.heap.objs.size cs.length).toList { s with heap := h' }) →
      wpAny (model prog w) A' (Builtin.SmallTypes.iterAll (cs.map fun q => .ref q.1)) Q E s := fun q => iterAll_src hv hlo q
    unfold Builtin.«zip.__new__» Builtin.SmallTypes.newClass
    wp_walk using go
    intro h1 hs1 hz1 hk1
    have hl : (itsN s.heap.objs.size cs.length).toList.length = cs.length := by simp [itsN]
    refine wpAny_bind (wpAny_newTuple ?_ (by rw [hl]; exact hsz))
    refine wpAny_bind (wpAny_newTuple ?_ (by rw [List.length_map, hl]; exact hsz))
    refine wpAny_bind ?_
    show wpAny _ _ (newObj (.type "zip") (.fields #[.none, .bool false, .bool false, .ref h1.objs.size, .ref (h1.push _).objs.size])) _ _ _
    refine wpAny_newObj_type ?_
    refine wpAny_pure ⟨_, rfl, ?_⟩
    dsimp only
    rw [Heap.size_push, Heap.size_push, hz1]
    have e2 : ∀ o1 o2 o3 : Obj, ∀ a o, h1.get? a = some o → (((h1.push o1).push o2).push o3).get? a = some o := fun o1 o2 o3 a o e => Heap.get?_push_of_some _ (Heap.get?_push_of_some _ (Heap.get?_push_of_some _ e))
    refine h _ ⟨?ka, hs1.same fun a o _ e => e2 _ _ _ a o e, .inl ?kf⟩ ?kb (fun a o e => e2 _ _ _ a o (hk1 a o e)) ?kf
    case kf =>
      refine ⟨((itsN s.heap.objs.size cs.length).toList.map fun _ => Value.none).toArray, ?_, ?_, ?_⟩
      · have := Heap.get?_push_size ((h1.push { cls := .type "tuple", data := .seq (itsN s.heap.objs.size cs.length).toList.toArray }).push { cls := .type "tuple", data := .seq ((itsN s.heap.objs.size cs.length).toList.map fun _ => Value.none).toArray }) (o := { cls := .type "zip", data := .fields #[.none, .bool false, .bool false, .ref (s.heap.objs.size + cs.length), .ref (s.heap.objs.size + cs.length + 1)] }) rfl
        rw [Heap.size_push, Heap.size_push, hz1] at this
        exact this
      · have := Heap.get?_push_size (h1.push { cls := .type "tuple", data := .seq (itsN s.heap.objs.size cs.length).toList.toArray }) (o := { cls := .type "tuple", data := .seq ((itsN s.heap.objs.size cs.length).toList.map fun _ => Value.none).toArray }) rfl
        rw [Heap.size_push, hz1] at this
        exact Heap.get?_push_of_some _ this
      · simp [itsN]
    case ka =>
      have := Heap.get?_push_size h1 (o := { cls := .type "tuple", data := .seq (itsN s.heap.objs.size cs.length).toList.toArray }) rfl
      rw [hz1, Array.toArray_toList] at this
      exact Heap.get?_push_of_some _ (Heap.get?_push_of_some _ this)
    case kb =>
      rw [Heap.size_push, Heap.size_push, Heap.size_push, hz1]
section
variable {prog : Program} {w : World} {A : Around} {E : Value → Shared → Prop} {s : Shared}
theorem call_zip {cs : List (Nat × Array Value)} {Q : Value → Shared → Prop} (hv : ∀ q ∈ cs, SrcV s.heap q.1 q.2) (hl : cs.length ≤ 16)
    (h : ∀ h', Zst h' s.heap.objs.size cs 0 → h'.objs.size = s.heap.objs.size + cs.length + 3 → (∀ a o, s.heap.get? a = some o → h'.get? a = some o) → FreeZ h' s.heap.objs.size cs → Q (.ref (s.heap.objs.size + cs.length + 2)) { s with heap := h' }) :
    wpAny (model prog w) A (call (.type "zip") (cs.map fun q => .ref q.1)) Q E s := by
  have hlo : ∀ q ∈ cs, q.1 < s.heap.objs.size := fun q hq => by
    rcases hv q hq with ⟨o, e, _⟩ | ⟨o, e, _⟩
    · exact Heap.lt_size e
    · exact Heap.lt_size e
  refine callType_new F.called_zip (by decide) (typeCall_zip _) (newCall_zip _ (by simpa using hl)) (fun obj => args_oinit obj _ (by simpa using hl)) F.entry_zip_new (zip_new cs) ⟨hv, hlo, Nat.le_trans hl (by decide), fun h' z hz hk fz => ?_⟩
  exact ⟨z.typ (s := { s with heap := h' }), h h' z hz hk fz⟩
end
end Zn

namespace Zn
open PySem PySem.Spec PyProof.Rows L2
structure Hold (cs : List (Nat × Array Value)) (xss : List (List V)) : Prop where
  len : cs.length = xss.length
  at_ : ∀ (j : Nat) (c : Nat) (its : Array Value) (xs : List V), cs[j]? = some (c, its) → xss[j]? = some xs → Vals xs its.toList
section
variable {X : Cx}
theorem callT_star {M : Model} {A : Around} {E : Value → Shared → Prop} {s : Shared} {T : String} {pos : Pos} {Q : Value → Shared → Prop} {args : List (Bool × Sem Value)} (starred : args.any (·.1) = true)
    (h : wpAny M A (evalArgs (.type T) true args []) (fun a s' => wpAny M A (call (.type T) a.pos a.kw) Q E s') E s) : wpAny M A (callWith pos (.type T) [] args []) Q E s := by
  unfold callWith
  apply wpAny_bind
  apply wpAny_holding
  apply wpAny_mono h _ fun _ _ z => z
  intro a s1 called
  apply wpAny_bind
  apply wpAny_standAt
  simp only [starred, Bool.true_or]
  apply wpAny_bind
  apply wpAny_pure
  apply wpAny_bind
  apply wpAny_mono (wpAny_operating called) _ fun _ _ z => z
  intro r s2 q
  apply wpAny_bind
  exact wpAny_holding (wpAny_point (wpAny_pure q))
def colV (xss : List (List V)) (j : Nat) : List V := xss.map fun xs => xs[j]?.getD .non
theorem vals_get : ∀ {xs : List V} {us : List Value}, Vals xs us → ∀ j : Nat, j < xs.length → RelV (xs[j]?.getD .non) (us[j]?.getD .none)
  | _, _, .nil, j, h => by simp at h
  | _, _, .cons r t, 0, h => by simpa using r
  | _, _, .cons r t, j + 1, h => by simpa using vals_get t j (by simpa using h)
theorem vals_len : ∀ {xs : List V} {us : List Value}, Vals xs us → xs.length = us.length
  | _, _, .nil => rfl
  | _, _, .cons _ t => congrArg (· + 1) (vals_len t)
theorem hold_col : ∀ {cs : List (Nat × Array Value)} {xss : List (List V)}, Hold cs xss → ∀ j : Nat, (∀ xs ∈ xss, j < xs.length) → Vals (colV xss j) (cs.map fun q => q.2[j]?.getD .none)
  | [], [], _, j, _ => .nil
  | [], _ :: _, h, _, _ => by have := h.len; simp at this
  | _ :: _, [], h, _, _ => by have := h.len; simp at this
  | (c, its) :: cs, xs :: xss, h, j, hl => by
    have r := h.at_ 0 c its xs rfl rfl
    refine .cons ?_ (hold_col (cs := cs) (xss := xss) ⟨by have := h.len; simpa using this, fun i c2 i2 x2 h1 h2 => h.at_ (i + 1) c2 i2 x2 (by simpa using h1) (by simpa using h2)⟩ j fun x hx => hl x (List.mem_cons_of_mem _ hx))
    have := vals_get r j (hl xs List.mem_cons_self)
    simpa using this
end
end Zn

namespace Pd
open PySem PySem.Spec PyProof.Rows L2 LamX Zn
inductive RepL (K : PySem.W.Frag) (wd : Wd) : List (List V) → List (List D) → Prop
  | nil : RepL K wd [] []
  | cons {xs : List V} {ds : List D} {xss : List (List V)} {dss : List (List D)} : Reps K wd xs ds → RepL K wd xss dss → RepL K wd (xs :: xss) (ds :: dss)
theorem RepL.length {K : PySem.W.Frag} {wd : Wd} : ∀ {xss : List (List V)} {dss : List (List D)}, RepL K wd xss dss → xss.length = dss.length
  | _, _, .nil => rfl
  | _, _, .cons _ t => congrArg (· + 1) t.length
theorem RepL.mono {K : PySem.W.Frag} {wd wd' : Wd} (le : Le wd wd') : ∀ {xss : List (List V)} {dss : List (List D)}, RepL K wd xss dss → RepL K wd' xss dss
  | _, _, .nil => .nil
  | _, _, .cons r t => .cons (r.mono le) (t.mono le)
def itemsAll : List D → Option (List (List D))
  | [] => some []
  | x :: xs => match dItems x, itemsAll xs with
    | some ys, some yss => some (ys :: yss)
    | _, _ => none
section
variable {X : Cx} {T : List (Addr × Str)} {E : XK} {k : Nat}
def minLen : List (List D) → Nat
  | [] => 0
  | [x] => x.length
  | x :: xs => min x.length (minLen xs)
theorem minLen_le : ∀ {dss : List (List D)}, ∀ ds ∈ dss, minLen dss ≤ ds.length
  | [], _, h => by cases h
  | [x], ds, h => by rw [List.mem_singleton.mp h]; exact Nat.le_refl _
  | x :: y :: xs, ds, h => by
    show min x.length (minLen (y :: xs)) ≤ _
    rcases List.mem_cons.mp h with rfl | h
    · exact Nat.min_le_left _ _
    · exact Nat.le_trans (Nat.min_le_right _ _) (minLen_le ds h)
theorem minLen_mem : ∀ {dss : List (List D)}, dss ≠ [] → ∃ ds ∈ dss, ds.length ≤ minLen dss
  | [], h => absurd rfl h
  | [x], _ => ⟨x, List.mem_cons_self, Nat.le_refl _⟩
  | x :: y :: xs, _ => by
    obtain ⟨ds, h1, h2⟩ := minLen_mem (dss := y :: xs) (by simp)
    by_cases hx : x.length ≤ minLen (y :: xs)
    · exact ⟨x, List.mem_cons_self, by show _ ≤ min x.length (minLen (y :: xs)); omega⟩
    · exact ⟨ds, List.mem_cons_of_mem _ h1, by show _ ≤ min x.length (minLen (y :: xs)); omega⟩
def colD (dss : List (List D)) (j : Nat) : List D := dss.map fun ds => ds[j]?.getD .non
def colsD (dss : List (List D)) : List D := (List.range (minLen dss)).map fun j => .tup (colD dss j)
def rowsD : List (List D) → List D
  | [xs, ys] => zipD xs ys
  | dss => colsD dss
theorem repL_col {K : PySem.W.Frag} {wd : Wd} : ∀ {xss : List (List V)} {dss : List (List D)}, RepL K wd xss dss → ∀ j, (∀ ds ∈ dss, j < ds.length) → Reps K wd (colV xss j) (colD dss j)
  | _, _, .nil, _, _ => .nil
  | _, _, .cons (xs := xs) (ds := ds) r t, j, h => by
    refine .cons ?_ (repL_col t j fun d hd => h d (List.mem_cons_of_mem _ hd))
    have hj := h ds List.mem_cons_self
    obtain ⟨v, e1, e2⟩ := r.get (List.getElem?_eq_getElem hj)
    show Rep K wd (xs[j]?.getD V.non) (ds[j]?.getD D.non)
    rw [e1, List.getElem?_eq_getElem hj]
    exact e2
end
end Pd

namespace Pd
open PySem PySem.Spec PyProof.Rows L2 LamX
section
variable {X : Cx} {T : List (Addr × Str)} {E : XK} {k : Nat} {x y : Expr} {a b : W D} {p p1 p2 pos : Pos}
theorem reps_rg {K : PySem.W.Frag} {wd : Wd} (i j : Int) : Reps K wd (L2.rgV i j) (Pd.upTo i j) := by
  unfold L2.rgV Pd.upTo
  have key : ∀ l : List Nat, Reps K wd (l.map fun (m : Nat) => V.int (i + m)) (l.map fun (m : Nat) => D.int (i + m)) := fun l => by
    induction l with
    | nil => exact .nil
    | cons m l ih => exact .cons (.int _) ih
  exact key _
def wRgF (w : W (Int × Int)) : W (List D) := w.bind fun q env Q _ => (-1000000 ≤ q.1 ∧ q.1 ≤ 1000000 ∧ -1000000 ≤ q.2 ∧ q.2 ≤ 1000000) ∧ Q (Pd.upTo q.1 q.2) env
def wRg1 (a : W D) : W (Int × Int) := a.bind fun x env Q _ => match x with
  | .int n => Q (0, n) env
  | _ => False
abbrev JR (T : List (Addr × Str)) (X : Cx) (E : XK) (e : Expr) (w : W (Int × Int)) : Prop := PRg X e (fun σ H Q => lift X.K T (fun _ _ _ _ _ (b : Int × Int) a => b = a) E w σ H fun q H' => Q q.1 q.2 H')
theorem jr_1 (hm : X.mg "range" = none) (ha : JE T X E x a) (hg : Gl X "range" := by rfl) (na : starEach [x] X.env = (false, eval x X.env) :: starEach [] X.env := by rfl) : JR T X E (.Call (.Name "range" p) [x] [] pos) (wRg1 a) := fun pins s σ H Q I ⟨c, wd, env, P, Ex, rl, h, xo, kk⟩ =>
  prg_1 hg hm ha na pins s σ H Q I ⟨c, wd, env, _, Ex, rl, h, xo, fun d env1 h1 v wd1 H1 le1 r1 rp1 => by
    dsimp only at h1
    split at h1
    · cases rp1
      exact ⟨_, rfl, kk (0, _) env1 h1 (0, _) wd1 H1 le1 r1 rfl⟩
    · exact h1.elim⟩
theorem jf_listRg {w : W (Int × Int)} (B : Bd X E k) (hm : X.mg "list" = none) (he : JR T X E x w) (hg : Gl X "list" := by rfl) (na : starEach [x] X.env = (false, eval x X.env) :: starEach [] X.env := by rfl) : JF T X E (.Call (.Name "list" p) [x] [] pos) (wRgF w) :=
  peI (pe_listRg B.calm hg hm he na) fun σ H Q ⟨c, wd, env, P, Ex, rl, h, xo, kk⟩ => ⟨c, wd, env, _, Ex, rl, h, xo, fun q env1 h1 q' wd1 H1 le1 r1 rp1 => by
    subst rp1
    obtain ⟨⟨i0, i1, j0, j1⟩, h2⟩ := h1
    refine ⟨⟨by omega, by omega, by omega, by omega, by omega⟩, fun S hS => ?_⟩
    obtain ⟨r3, f⟩ := r1.fresh hS (reps_rg q'.1 q'.2) (by rw [rgV_length, sizeLine_eq]; omega)
    exact kk _ env1 h2 (.ref S) _ _ le1 r3 f⟩
end
end Pd

namespace Pd
open PySem PySem.Spec PyProof.Rows L2 LamX
def okR : D → Bool
  | .non => true
  | .bl _ => true
  | .int _ => true
  | .str _ => true
  | .lst _ => true
  | .tup _ => true
  | .dic [] => true
  | _ => false
def ShoA (d : D) : Prop := okR d = true ∧ sho 30 d = true ∧ wt d ≤ 100000
end Pd

namespace Pd
open PySem PySem.Spec PyProof.Rows L2 LamX
section
variable {P : Program} {w : World} {K : PySem.W.Frag} {mg : Str → Option Value} {base : Heap} {T : List (Addr × Str)}
end
section
variable {X : Cx} {T : List (Addr × Str)} {E : XK} {k : Nat}
end
end Pd

namespace Pd
open PySem PySem.Spec PyProof.Rows L2 LamX
section
variable {X : Cx}
end
end Pd

namespace Pd
open PySem PySem.Spec PyProof.Rows L2 LamX
structure MethOk (P : Program) (w : World) (K : PySem.W.Frag) (mg : Str → Option Value) (base : Heap) (T : List (Addr × Str)) (C m : Str) (k : Nat) (F : Fn) : Prop where
  cl : Cls K (He.ga K C)
  ex : ∃ f, Meth K (He.ga K C) m f ∧ FnR P w K mg base (L2.CX P w) k f (spec K T F)
theorem lookup_none {K : PySem.W.Frag} {wd : Wd} : ∀ {vs : List (Str × V)} {ds : List (Str × D)} {f : Str}, vs.map (·.1) = ds.map (·.1) → ds.lookup f = none → vs.lookup f = none
  | [], _, f, _, _ => rfl
  | _ :: _, [], _, e, _ => by simp at e
  | (a, v) :: vs, (b, x) :: ds, f, e, h => by
    have e1 : a = b := by simpa using congrArg List.head? e
    have e2 : vs.map (·.1) = ds.map (·.1) := by simpa using congrArg List.tail e
    subst e1
    by_cases hf : (f == a) = true
    · have : List.lookup f ((a, x) :: ds) = some x := by simp only [List.lookup, hf]
      rw [this] at h
      cases h
    · have hf' : (f == a) = false := by simpa using hf
      have h' : ds.lookup f = none := by
        have : List.lookup f ((a, x) :: ds) = ds.lookup f := by simp only [List.lookup, hf']
        rw [this] at h
        exact h
      have := lookup_none (K := K) (wd := wd) e2 h'
      simp only [List.lookup, hf']
      exact this
def wMeth (C m : Str) (F : Fn) (o : W D) (a : W (List D)) : W D := o.bind fun x env Q ex => match x with
  | .ins C' fs => C' = C ∧ fs.lookup m = none ∧ (a.bind fun ds env Q ex => F (.ins C' fs :: ds) (fun d => Q d env) ex) env Q ex
  | _ => False
section
variable {X : Cx} {T : List (Addr × Str)} {E : XK} {k : Nat}
theorem lift_meth {C m : Str} {F : Fn} {o : W D} {a : W (List D)} {σ : L2.St} {H : Hp} {Q : VK} (h : lift X.K T (rE X.K) E (wMeth C m F o a) σ H Q) : tMethR (He.ga X.K C) m (spec X.K T F) E (lift X.K T (rE X.K) E o) (lift X.K T (rA X.K) E a) σ H Q := by
  obtain ⟨c, wd, env, P, Ex, r, h, xo, kk⟩ := h
  refine ⟨c, wd, env, _, Ex, r, h, xo, fun x env1 h1 v wd1 H1 le1 r1 rp1 => ?_⟩
  dsimp only at h1
  split at h1
  · obtain ⟨rfl, nl, h1⟩ := h1
    cases rp1 with
    | ins hm en er =>
      refine ⟨_, _, _, rfl, r1.good.sub _ _ hm, lookup_none (K := X.K) (wd := wd) en nl, c, wd1, env1, _, Ex, r1, h1, xo, fun ds env2 h2 vs wd2 H2 le2 r2 rp2 => ?_⟩
      exact ⟨wd2, _ :: ds, _, Ex, r2.good, .cons (Rep.mono le2 (.ins hm en er)) rp2, h2, xo.into r2.ord r2.keep, fun d hd v wd3 H3 o3 g3 k3 rp3 => kk d env2 hd v wd3 H3 ((le1.trans le2).trans o3.le) (r2.go o3 g3 k3) rp3⟩
  · exact h1.elim
theorem je_meth {C m : Str} {F : Fn} {o e : Expr} {es : List Expr} {wo : W D} {a : W (List D)} {apos pos : Pos} {pl : Sem Bool} {j : Nat} (B : Bd X E k) (G : MethOk X.prog X.w X.K X.mg X.base T C m j F) (ho : JE T X E o wo) (ha : JA T X E (e :: es) a) (hj : j ≤ k := by decide)
    (hst : starEach (e :: es) X.env = (false, eval e X.env) :: starEach es X.env := by rfl) (hpl : (backTo pos (starEach es X.env)).any (·.1) = false := by rfl)
    (ht : eval (.Call (.Attribute o m apos) (e :: es) [] pos) X.env = (do
      let ov ← eval o X.env
      standAt apos.atName
      let (f, first) ← holding [ov] (getMethod ov m pl)
      callWith pos f first (backTo pos (starEach (e :: es) X.env)) (backToKw pos (keywordEach [] X.env))) := by rfl) : JE T X E (.Call (.Attribute o m apos) (e :: es) [] pos) (wMeth C m F wo a) := by
  obtain ⟨f, g1, g2⟩ := G.ex
  exact peI (pe_methR ho G.cl g1 g2 (B.room.mono hj) B.pass ha hst hpl ht) fun σ H Q h => lift_meth h
end
section
variable {P : Program} {w : World} {K : PySem.W.Frag} {mg : Str → Option Value} {base : Heap} {T : List (Addr × Str)}
theorem meth_okX {C m qual : Str} {st : Stmt} {f : Addr} {N ps : List Str} {k : Nat} {F : Fn} (cl : Cls K (He.ga K C)) (mt : Meth K (He.ga K C) m f) (D : HasA K f m qual st) (S : FnScope N ps (defScope st)) (bn : ∀ fd, FunD K m qual (defArgs st) (defBody st) (defScope st) [] [] f fd → Binds K fd ps [])
    (len : ∀ ds Q Ex, F ds Q Ex → ds.length = ps.length)
    (hd : ∀ (cdv : Value) (A : Around) (outer : List Env) (s : Shared) (H : Hp) (E : XK) (f : Addr), Bd (cxOf (L2.CX P w) P w K mg base N qual (defScope st) f cdv A outer s H E) E k → Takes (cxOf (L2.CX P w) P w K mg base N qual (defScope st) f cdv A outer s H E) (fun cls d _ H => E cls d H) →
      ∃ wb, JSs T (cxOf (L2.CX P w) P w K mg base N qual (defScope st) f cdv A outer s H E) E (defBody st) wb ∧ ∀ ds Q Ex, F ds Q Ex → wb (dEnds Q Ex) (startE N ds)) : MethOk P w K mg base T C m (k + 1) F := by
  obtain ⟨fd, D⟩ := D
  refine ⟨cl, f, mt, ?_⟩
  refine FnR.imp ((fn_okA D S len fun cdv A outer s H E B tk => hd cdv A outer s H E f B tk).raw (bn fd D) .nil) fun vs H Q E h => ?_
  show spec K T F (vs ++ []) H Q E
  rw [List.append_nil]
  exact h
end
end Pd

namespace Pd
open PySem PySem.Spec PyProof.Rows L2 LamX
structure CMethOk (P : Program) (w : World) (K : PySem.W.Frag) (mg : Str → Option Value) (base : Heap) (T : List (Addr × Str)) (C m : Str) (k : Nat) (F : Fn) : Prop where
  gl : mg C = some (.ref (He.ga K C))
  rd : ClX.CRead K (He.ga K C) (.type "type")
  ex : ∃ p g, ClX.CMet K (He.ga K C) (.type "type") m p g ∧ FnR P w K mg base (L2.CX P w) k g (spec K T F)
section
variable {X : Cx} {T : List (Addr × Str)} {E : XK} {k : Nat}
def wCMeth (C : Str) (F : Fn) (a : W (List D)) : W D := a.bind fun ds env Q ex => F (.cls C :: ds) (fun d => Q d env) ex
theorem je_cmeth {C m : Str} {F : Fn} {e : Expr} {es : List Expr} {a : W (List D)} {p apos pos : Pos} {pl : Sem Bool} {j : Nat} (B : Bd X E k) (G : CMethOk X.prog X.w X.K X.mg X.base T C m j F) (ha : JA T X E (e :: es) a) (hj : j ≤ k := by decide) (hg : Gl X C := by rfl) (hd : (C == ("__debug__" : Str)) = false := by decide)
    (hst : starEach (e :: es) X.env = (false, eval e X.env) :: starEach es X.env := by rfl) (hpl : (backTo pos (starEach es X.env)).any (·.1) = false := by rfl)
    (ht : eval (.Call (.Attribute (.Name C p) m apos) (e :: es) [] pos) X.env = (do
      let ov ← eval (.Name C p) X.env
      standAt apos.atName
      let (f, first) ← holding [ov] (getMethod ov m pl)
      callWith pos f first (backTo pos (starEach (e :: es) X.env)) (backToKw pos (keywordEach [] X.env))) := by rfl) : JE T X E (.Call (.Attribute (.Name C p) m apos) (e :: es) [] pos) (wCMeth C F a) := by
  obtain ⟨q, g, g1, g2⟩ := G.ex
  refine peI (ClX.pe_cmeth (pe_glob (v := .ref (He.ga X.K C)) hg G.gl rfl hd) G.rd g1 g2 (B.room.mono hj) B.pass ha hst hpl ht) fun σ H Q ⟨c, wd, env, P, Ex, r, h, xo, kk⟩ => ?_
  refine ⟨rfl, c, wd, env, _, Ex, r, h, xo, fun ds env2 h2 vs wd2 H2 le2 r2 rp2 => ?_⟩
  exact ⟨wd2, .cls C :: ds, _, Ex, r2.good, .cons (.cls C) rp2, h2, xo.into r2.ord r2.keep, fun d hd v wd3 H3 o3 g3 k3 rp3 => kk d env2 hd v wd3 H3 (le2.trans o3.le) (r2.go o3 g3 k3) rp3⟩
def wMakeL (i : Nat) (C : Str) (F : IFn) (a : W (List D)) : W D := fun env Q ex => gt env i = some (.d (.cls C)) ∧ wMake C F a env Q ex
theorem slot_cls {K : PySem.W.Frag} {c : Ctx} {wd : Wd} {env : PEnv} {σ : L2.St} {H : Hp} {i : Nat} {C : Str} (r : Rel K T c wd env σ H) (h : gt env i = some (.d (.cls C))) : σ[i]? = some (some (.ref (He.ga K C))) := by
  obtain ⟨v, e, rp⟩ := r.dat i _ (gt_eq _ _ h)
  cases rp
  exact e
theorem cls_of {pins : List (Addr × Obj)} {σ : L2.St} {H : Hp} {s : Shared} {C : Addr} {x : Str} {i : Nat} {args : List Expr} {p pos : Pos} {Q : Value → Shared → Prop} (I : Inv X pins σ H s) (hN : X.N[i]? = some x) (hv : Vis X.env.scope x) (hdb : (x == ("__debug__" : Str)) = false) (hcd : (x == ("__classdict__" : Str)) = false)
    (held : σ[i]? = some (some (.ref C))) (h : ∀ s1, Inv X pins σ H s1 → wpAny (model X.prog X.w) X.A (callWith pos (.ref C) [] (backTo pos (starEach args X.env)) (backToKw pos (keywordEach [] X.env))) Q X.xe s1) :
    wpAny (model X.prog X.w) X.A (eval (.Call (.Name x p) args [] pos) X.env) Q X.xe s := by
  have read := (pe_var (X := X) (pos := p) hN hv hdb hcd).run pins s σ H (fun v G => v = .ref C ∧ G = H) I ⟨.ref C, held, rfl, rfl⟩
  apply wpAny_Call_Name_kw
  apply thn read
  rintro _ s1 ⟨_, _, I1, same, rfl, rfl⟩
  cases same
  exact h s1 I1
theorem pe_makeLS {CX : CXT} {i : Nat} {f C : Addr} {sp : Sp} {x : Str} {e : Expr} {es : List Expr} {t : TA} {p pos : Pos} (M : Mk X.K C f) (F : FnR X.prog X.w X.K X.mg X.base CX k f sp) (hr : Room (k + 1) X.A) (hN : X.N[i]? = some x) (hv : Vis X.env.scope x) (hx : Passes CX X E) (ha : PA X (e :: es) t)
    (hdb : (x == ("__debug__" : Str)) = false := by decide) (hcd : (x == ("__classdict__" : Str)) = false := by decide) (he : starEach (e :: es) X.env = (false, eval e X.env) :: starEach es X.env := by rfl) (hst : (backTo pos (starEach es X.env)).any (·.1) = true := by rfl) :
    PE X (.Call (.Name x p) (e :: es) [] pos) (fun σ H Q => σ[i]? = some (some (.ref C)) ∧ StX.tMakeR C sp E t σ H Q) := by
  constructor
  rintro pins s σ H Q I ⟨held, told⟩
  apply cls_of I hN hv hdb hcd held
  intro s1 I1
  apply PySem.W.callWith_S2 I.ok.mod.kin M.kp _ he hst
  apply thn (ha.run pos pins s1 σ H _ I1 told)
  rintro us s2 ⟨vs, H2, I2, same, q⟩
  exact ⟨I2.kIn, StX.run_makeR M F hr hx I2 same q⟩
theorem je_makeLS {C : Str} {F : IFn} {x : Str} {e : Expr} {es : List Expr} {a : W (List D)} {p pos : Pos} {j : Nat} (i : Nat) (B : Bd X E k) (G : InitOk X.prog X.w X.K X.mg X.base T C j F) (ha : JA T X E (e :: es) a) (hj : j + 1 ≤ k := by decide) (hN : X.N[i]? = some x := by rfl)
    (hv : Vis X.env.scope x := by first | exact Or.inl rfl | exact Or.inr (Or.inl rfl) | exact Or.inr (Or.inr rfl)) (hdb : (x == ("__debug__" : Str)) = false := by decide) (hcd : (x == ("__classdict__" : Str)) = false := by decide) (he : starEach (e :: es) X.env = (false, eval e X.env) :: starEach es X.env := by rfl)
    (hst : (backTo pos (starEach es X.env)).any (·.1) = true := by rfl) : JE T X E (.Call (.Name x p) (e :: es) [] pos) (wMakeL i C F a) := by
  obtain ⟨f, g1, g2, g3⟩ := G.ex
  exact peI (pe_makeLS g1 g3 (B.room.mono hj) hN hv B.pass ha hdb hcd he hst) fun σ H Q ⟨c, wd, env, P, Ex, r, h, xo, kk⟩ => ⟨slot_cls r h.1, lift_make ⟨c, wd, env, P, Ex, r, h.2, xo, kk⟩⟩
theorem pe_makeL1 {CX : CXT} {i : Nat} {f C : Addr} {sp : Sp} {x : Str} {e : Expr} {te : TE} {p sp_ pos : Pos} (M : Mk X.K C f) (F : FnR X.prog X.w X.K X.mg X.base CX k f sp) (hr : Room (k + 1) X.A) (hN : X.N[i]? = some x) (hv : Vis X.env.scope x) (hx : Passes CX X E) (hte : PE X e te)
    (hdb : (x == ("__debug__" : Str)) = false := by decide) (hcd : (x == ("__classdict__" : Str)) = false := by decide) (hst : starEach [.Starred e sp_] X.env = [(true, eval e X.env)] := by rfl) :
    PE X (.Call (.Name x p) [.Starred e sp_] [] pos) (fun σ H Q => σ[i]? = some (some (.ref C)) ∧ StX.tMakeR C sp E (StX.tStar X.K te tNil) σ H Q) := by
  constructor
  rintro pins s σ H Q I ⟨held, told⟩
  apply cls_of I hN hv hdb hcd held
  intro s1 I1
  apply PySem.W.callWith_S I.ok.mod.kin M.kp _ hst
  apply thn (hte.run pins s1 σ H _ I1 told)
  rintro _ s2 ⟨_, H2, I2, self_, a, xs, rfl, items, q⟩
  cases self_
  apply StX.star_any I2 items
  intro us s3 I3 same
  exact ⟨I3.kIn, StX.run_makeR M F hr hx I3 same (by simpa [tNil] using q)⟩
theorem je_makeL1 {C : Str} {F : IFn} {x : Str} {e : Expr} {a : W D} {p sp_ pos : Pos} {j : Nat} (i : Nat) (B : Bd X E k) (G : InitOk X.prog X.w X.K X.mg X.base T C j F) (ha : JB T X E e a) (hj : j + 1 ≤ k := by decide) (hN : X.N[i]? = some x := by rfl)
    (hv : Vis X.env.scope x := by first | exact Or.inl rfl | exact Or.inr (Or.inl rfl) | exact Or.inr (Or.inr rfl)) (hdb : (x == ("__debug__" : Str)) = false := by decide) (hcd : (x == ("__classdict__" : Str)) = false := by decide)
    (hst : starEach [.Starred e sp_] X.env = [(true, eval e X.env)] := by rfl) : JE T X E (.Call (.Name x p) [.Starred e sp_] [] pos) (wMakeL i C F (wStar a wNil)) := by
  obtain ⟨f, g1, g2, g3⟩ := G.ex
  refine peI (pe_makeL1 g1 g3 (B.room.mono hj) hN hv B.pass ha hdb hcd hst) fun σ H Q ⟨c, wd, env, P, Ex, r, h, xo, kk⟩ => ⟨slot_cls r h.1, ?_⟩
  obtain ⟨c, wd, env, P, Ex, r, h, xo, k⟩ := lift_make (a := wStar a wNil) (F := F) (T := T) ⟨c, wd, env, P, Ex, r, h.2, xo, kk⟩
  refine ⟨c, wd, env, _, Ex, r, h, xo, fun x env1 h1 v wd1 H1 le1 r1 tp => ?_⟩
  dsimp only at h1
  split at h1
  · rename_i xs ex
    cases x with
    | lst ys =>
      cases ex
      obtain ⟨p, vs, rfl, q1, q2⟩ := top_lst r1.good tp
      exact ⟨p, vs, rfl, .inr (.inl (.inl q1)), k _ env1 h1 _ wd1 H1 le1 r1 (q2.append .nil)⟩
    | tup ys =>
      cases ex
      obtain ⟨p, vs, rfl, q1, _, q2⟩ := top_tup r1.good tp
      exact ⟨p, vs, rfl, .inl q1, k _ env1 h1 _ wd1 H1 le1 r1 (q2.append .nil)⟩
    | _ => cases ex
  · exact h1.elim
structure ObC (K : PySem.W.Frag) (C : Str) : Prop where
  cl : Cls K (He.ga K C)
  fc : PySem.W.findIn K (.ref (He.ga K C)) "__class__" = some (some (.builtin "object.__class__"))
  sp : PySem.W.specialIn K (.builtin "object.__class__") "__get__" = some (some (.builtin "getset_descriptor.__get__"))
  tk : PySem.W.takesIn K (.builtin "object.__class__") = some true
  mr : PySem.W.mroIn K (He.ga K C) (.type "object") = some true
def obB (K : PySem.W.Frag) (C : Str) : Bool := (He.Fa.cls C).ok K && (decide (PySem.W.findIn K (.ref (He.ga K C)) "__class__" = some (some (.builtin "object.__class__"))) && (decide (PySem.W.specialIn K (.builtin "object.__class__") "__get__" = some (some (.builtin "getset_descriptor.__get__"))) && (decide (PySem.W.takesIn K (.builtin "object.__class__") = some true) && decide (PySem.W.mroIn K (He.ga K C) (.type "object") = some true))))
theorem obB_ok {K : PySem.W.Frag} {C : Str} (h : obB K C = true) : ObC K C := by
  unfold obB at h
  simp only [Bool.and_eq_true] at h
  exact ⟨He.cls_ok h.1, of_decide_eq_true h.2.1, of_decide_eq_true h.2.2.1, of_decide_eq_true h.2.2.2.1, of_decide_eq_true h.2.2.2.2⟩
structure IsC (K : PySem.W.Frag) (C : Str) (Cs : List Str) : Prop where
  ty : ∀ s ∈ ["NoneType", "bool", "int", "str", "tuple", "list", "dict"], PySem.W.kitOne K (.type s) (.ref (He.ga K C)) = some false
  ob : ∀ C' ∈ Cs, ObC K C'
  ins : ∀ C' ∈ Cs, PySem.W.kitOne K (.ref (He.ga K C')) (.ref (He.ga K C)) = some (decide (C' = C))
def isCB (K : PySem.W.Frag) (C : Str) (Cs : List Str) : Bool := (["NoneType", "bool", "int", "str", "tuple", "list", "dict"].all fun s => decide (PySem.W.kitOne K (.type s) (.ref (He.ga K C)) = some false)) && (Cs.all fun C' => obB K C' && decide (PySem.W.kitOne K (.ref (He.ga K C')) (.ref (He.ga K C)) = some (decide (C' = C))))
theorem isCB_ok {K : PySem.W.Frag} {C : Str} {Cs : List Str} (h : isCB K C Cs = true) : IsC K C Cs := by
  unfold isCB at h
  rw [Bool.and_eq_true, List.all_eq_true, List.all_eq_true] at h
  refine ⟨fun s hs => of_decide_eq_true (h.1 s hs), fun s hs => ?_, fun s hs => ?_⟩
  · have := h.2 s hs
    rw [Bool.and_eq_true] at this
    exact obB_ok this.1
  · have := h.2 s hs
    rw [Bool.and_eq_true] at this
    exact of_decide_eq_true this.2
def dIsC (Cs : List Str) (C : Str) : D → Option D
  | .ins C' _ => if C' ∈ Cs then some (.bl (decide (C' = C))) else none
  | x => (dTy x).map fun _ => .bl false
theorem je_isC {C : Str} {Cs : List Str} {e : Expr} {a : W D} {p p2 pos : Pos} (hc : IsC X.K C Cs) (hm2 : X.mg C = some (.ref (He.ga X.K C))) (hm : X.mg "isinstance" = none) (ha : JE T X E e a)
    (hg : Gl X "isinstance" := by rfl) (hg2 : Gl X C := by rfl) (hdb : (C == ("__debug__" : Str)) = false := by decide)
    (hs : starEach [e, .Name C p2] X.env = (false, eval e X.env) :: starEach [.Name C p2] X.env := by rfl) (hs2 : starEach [.Name C p2] X.env = (false, eval (.Name C p2) X.env) :: starEach [] X.env := by rfl) (hpl : (backTo pos (starEach [.Name C p2] X.env)).any (·.1) = false := by rfl) :
    JE T X E (.Call (.Name "isinstance" p) [e, .Name C p2] [] pos) (w1 (dIsC Cs C) a) := by
  refine peI (pe_callB call_isi hg hm (by decide +kernel) (pa_cons ha (pa_cons (pe_glob (v := .ref (He.ga X.K C)) hg2 hm2 rfl hdb) pa_nil hs2) hs) (by decide) (by decide) hs hpl) fun σ H Q ⟨c, wd, env, P, Ex, rl, h, xo, k⟩ => ?_
  refine ⟨c, wd, env, _, Ex, rl, h, xo, fun x env1 h1 v wd1 H1 le1 r1 rp => ?_⟩
  obtain ⟨z, e1, h2⟩ := opt_inv h1
  have base : ∀ s : String, dTy x = some s → z = .bl false → s ∈ ["NoneType", "bool", "int", "str", "tuple", "list", "dict"] → ∃ (x' c' : V) (t u : Value) (b : Bool), [v, V.ref (He.ga X.K C)] = [x', c'] ∧ ClsV c' u ∧ TyX X.K H1 x' t ∧ PySem.W.kitOne X.K t u = some b ∧ Q (.bl b) H1 := fun s e2 ez hs => by
    subst ez
    exact ⟨v, _, .type s, _, false, rfl, .own _, rep_ty r1.good rp e2, hc.ty s hs, k _ env1 h2 _ wd1 H1 le1 r1 (.bl _)⟩
  cases x with
  | ins C' fs =>
    obtain ⟨hC, rfl⟩ := ite_some e1
    cases rp with
    | ins hm' en er => exact ⟨_, _, _, _, _, rfl, .own _, .base (.ins (r1.good.sub _ _ hm') (hc.ob C' hC).cl (hc.ob C' hC).fc (hc.ob C' hC).sp (hc.ob C' hC).tk (hc.ob C' hC).mr), hc.ins C' hC, k _ env1 h2 _ wd1 H1 le1 r1 (.bl _)⟩
  | non => exact base "NoneType" rfl (Option.some.inj e1).symm (by decide)
  | bl _ => exact base "bool" rfl (Option.some.inj e1).symm (by decide)
  | int _ => exact base "int" rfl (Option.some.inj e1).symm (by decide)
  | str _ => exact base "str" rfl (Option.some.inj e1).symm (by decide)
  | tup _ => exact base "tuple" rfl (Option.some.inj e1).symm (by decide)
  | lst _ => exact base "list" rfl (Option.some.inj e1).symm (by decide)
  | dic _ => exact base "dict" rfl (Option.some.inj e1).symm (by decide)
  | _ => cases e1
end
section
variable {P : Program} {w : World} {K : PySem.W.Frag} {mg : Str → Option Value} {base : Heap} {T : List (Addr × Str)}
theorem cmeth_okX {C m qual : Str} {st : Stmt} {p f : Addr} {N ps : List Str} {k : Nat} {F : Fn} (gl : mg C = some (.ref (He.ga K C))) (rd : ClX.CRead K (He.ga K C) (.type "type")) (cm : ClX.CMet K (He.ga K C) (.type "type") m p f) (D : HasA K f m qual st) (S : FnScope N ps (defScope st)) (bn : ∀ fd, FunD K m qual (defArgs st) (defBody st) (defScope st) [] [] f fd → Binds K fd ps [])
    (len : ∀ ds Q Ex, F ds Q Ex → ds.length = ps.length)
    (hd : ∀ (cdv : Value) (A : Around) (outer : List Env) (s : Shared) (H : Hp) (E : XK) (f : Addr), Bd (cxOf (L2.CX P w) P w K mg base N qual (defScope st) f cdv A outer s H E) E k → Takes (cxOf (L2.CX P w) P w K mg base N qual (defScope st) f cdv A outer s H E) (fun cls d _ H => E cls d H) →
      ∃ wb, JSs T (cxOf (L2.CX P w) P w K mg base N qual (defScope st) f cdv A outer s H E) E (defBody st) wb ∧ ∀ ds Q Ex, F ds Q Ex → wb (dEnds Q Ex) (startE N ds)) : CMethOk P w K mg base T C m (k + 1) F := by
  obtain ⟨fd, D⟩ := D
  refine ⟨gl, rd, p, f, cm, ?_⟩
  refine FnR.imp ((fn_okA D S len fun cdv A outer s H E B tk => hd cdv A outer s H E f B tk).raw (bn fd D) .nil) fun vs H Q E h => ?_
  show spec K T F (vs ++ []) H Q E
  rw [List.append_nil]
  exact h
end
end Pd

namespace Pd
open PySem PySem.Spec PyProof.Rows L2 LamX
section
variable {X : Cx} {T : List (Addr × Str)} {E : XK} {k : Nat}
theorem own_at {pins : List (Addr × Obj)} {σ : L2.St} {H : Hp} {s : Shared} {a C dx : Addr} {fs : List (Str × V)} (I : Inv X pins σ H s) (e : H a = some (.ins C dx fs)) : ∃ od, PySem.W.InstAt s.heap a (PySem.W.instObj C dx) C (some od) := by
  obtain ⟨_, there, _⟩ := ins_get I.hok e
  obtain ⟨od, known, _⟩ := there.look
  exact ⟨od, known⟩
end
end Pd

namespace Zn
open PySem
section
variable {prog : Program} {w : World}
def DSt (b d : Nat) (cs : List (Nat × Array Value)) (k : Nat) (h : Heap) : Prop := IsTupN h (b + cs.length) (itsN b cs.length) ∧ Srcs h b cs k 0 ∧
  (FreeZ h b cs ∨ ∃ (T : Nat) (f : Bool) (oT : Obj), IsZ h (b + cs.length + 2) (b + cs.length) (b + cs.length + 1) (rawInt T) f ∧ h.get? T = some oT ∧ b + cs.length + 2 < T ∧ T ≠ d)
theorem DSt.typ {s : Shared} {b d k : Nat} {cs : List (Nat × Array Value)} (z : DSt b d cs k s.heap) : s.TypeIs (.ref (b + cs.length + 2)) "zip" := by
  rcases z.2.2 with ⟨os, h, _⟩ | ⟨T, f, oT, h, _⟩
  · exact ⟨_, h, rfl⟩
  · exact ⟨_, h, rfl⟩
def wrZ (b n : Nat) : List Addr := (List.range (n + 3)).map fun j : Nat => (b + j : Nat)
theorem in_wr {b n : Nat} {c : Nat} (h1 : b ≤ c) (h2 : c ≤ b + n + 2) : c ∈ wrZ b n :=
  List.mem_map.mpr ⟨c - b, List.mem_range.mpr (by omega), by omega⟩
theorem out_of {b n : Nat} {c : Nat} (h : c ∉ wrZ b n) : c < b ∨ b + n + 2 < c := by
  apply Decidable.byContradiction
  intro z
  exact h (in_wr (by omega) (by omega))
end
end Zn

namespace Zn
open PySem PySem.Spec PyProof.Rows L2
section
variable {X : Cx}
end
end Zn

namespace Pd
open PySem PySem.Spec PyProof.Rows L2 LamX Zn
section
variable {X : Cx} {T : List (Addr × Str)} {E : XK} {k : Nat}
def lookD (ds : List (Key × D)) (k : Key) : Option D := (ds.find? fun kv => decide (kv.1 = k)).map (·.2)
end
end Pd

namespace Pd
open PySem PySem.Spec PyProof.Rows L2 LamX
section
variable {X : Cx} {T : List (Addr × Str)} {E : XK} {k : Nat} {tg : Expr}
end
end Pd

namespace Zs
open PySem PySem.Spec PyProof.Rows L2
section
variable {P : Program} {w : World} {A : Around} {E : Value → Shared → Prop} {s : Shared}
end
end Zs
namespace Pd
open PySem PySem.Spec PyProof.Rows L2 LamX
section
variable {X : Cx} {T : List (Addr × Str)} {E : XK} {k : Nat}
end
end Pd

namespace Zs
open PySem PySem.Spec PyProof.Rows L2
theorem few_of {α : Type} [DecidableEq α] : ∀ {l M : List α}, l.Nodup → (∀ x ∈ l, x ∈ M) → l.length ≤ M.length
  | [], _, _, _ => Nat.zero_le _
  | x :: l, M, nd, h => by
    obtain ⟨n1, n2⟩ := List.nodup_cons.mp nd
    have hx := h x List.mem_cons_self
    have := few_of (M := M.erase x) n2 fun y hy => (List.mem_erase_of_ne fun (e : y = x) => n1 (e ▸ hy)).mpr (h y (List.mem_cons_of_mem _ hy))
    have e := List.length_erase_of_mem hx
    have p : 0 < M.length := List.length_pos_of_mem hx
    rw [List.length_cons]
    omega
section
variable {P : Program} {w : World} {A : Around} {E : Value → Shared → Prop} {s : Shared}
end
end Zs
namespace Pd
open PySem PySem.Spec PyProof.Rows L2 LamX
section
variable {X : Cx} {T : List (Addr × Str)} {E : XK} {k : Nat}
end
end Pd

namespace Pd
open PySem PySem.Spec PyProof.Rows L2 LamX
structure CmF (K : PySem.W.Frag) (C m : Str) : Prop where
  rd : ClX.CRead K (He.ga K C) (.type "type")
  cm : ClX.CMet K (He.ga K C) (.type "type") m (He.ma K (He.ga K C) m) (He5.wf K (He.ga K C) "classmethod" m)
def cmB (K : PySem.W.Frag) (C m : Str) : Bool := (PySem.W.readsIn K (He.ga K C) (.type "type") && decide (PySem.W.specialIn K (.ref (He.ga K C)) "__getattribute__" = some (some (.builtin "type.__getattribute__")))) && (He5.wrapB K (He.ga K C) "classmethod" "classmethod.__get__" m && PySem.W.fnIn K (He5.wf K (He.ga K C) "classmethod" m))
theorem cmB_ok {K : PySem.W.Frag} {C m : Str} (h : cmB K C m = true) : CmF K C m := by
  unfold cmB at h
  simp only [Bool.and_eq_true] at h
  obtain ⟨⟨h1, h2⟩, h3, h4⟩ := h
  obtain ⟨h5, h6⟩ := He5.wrapB_ok h3
  exact ⟨⟨h1, of_decide_eq_true h2⟩, h5, h6, h4⟩
end Pd

namespace Zs
open PySem PySem.Spec PyProof.Rows L2
section
variable {P : Program} {w : World} {A : Around} {E : Value → Shared → Prop} {s : Shared}
end
end Zs
namespace Pd
open PySem PySem.Spec PyProof.Rows L2 LamX
section
variable {X : Cx} {T : List (Addr × Str)} {E : XK} {k : Nat}
end
end Pd

namespace Zs
open PySem PySem.Spec PyProof.Rows L2
section
variable {P : Program} {w : World} {A : Around} {E : Value → Shared → Prop} {s : Shared}
end
end Zs
namespace Pd
open PySem PySem.Spec PyProof.Rows L2 LamX
section
variable {X : Cx} {T : List (Addr × Str)} {E : XK} {k : Nat}
end
end Pd

namespace Pd
open PySem PySem.Spec PyProof.Rows L2 LamX
section
variable {K : PySem.W.Frag} {T : List (Addr × Str)} {c : Ctx} {wd wd' : Wd} {env env' : PEnv} {σ σ' : L2.St} {H H' : Hp}
end
end Pd

namespace Pd
open PySem PySem.Spec PyProof.Rows L2 LamX
def dctIs (env : PEnv) (i : Nat) (P : List (Key × D) → Prop) : Prop := match gt env i with
  | some (.dct none (.s ks)) => P ks
  | _ => False
def putD (ks : List (Key × D)) (k : Key) (d : D) : List (Key × D) := if (ks.any fun kv => decide (kv.1 = k)) = true then ks.map (fun kv => if kv.1 = k then (kv.1, d) else kv) else ks ++ [(k, d)]
section
variable {K : PySem.W.Frag} {wd : Wd}
end
section
variable {X : Cx} {T : List (Addr × Str)} {E : XK} {k : Nat} {x : Str} {y e : Expr} {p1 p2 pos apos : Pos}
def wDctGet (i : Nat) (b : W D) : W D := fun env Q ex => dctIs env i fun _ => b env (fun y env1 => dctIs env1 i fun ks => match y with
  | .int n => ∃ z, lookD ks (Sum.inl n) = some z ∧ Q z env1
  | _ => False) ex
def sDctPut (i : Nat) (iw ew : W D) : WS := fun pe env => ew env (fun v env1 => dctIs env1 i fun _ => iw env1 (fun n env2 => dctIs env2 i fun ks => match n with
  | .int n => ks.length < 1000000 ∧ pe.nx (env2.set i (some (.dct none (.s (putD ks (Sum.inl n) v)))))
  | _ => False) pe.ex) pe.ex
end
end Pd

namespace Pd
open PySem PySem.Spec PyProof.Rows L2 LamX
section
variable {J : It} {n : Nat} {G : Hp → Prop} {Y : Nat → Hp → V → Hp → Prop}
end
section
variable {K : PySem.W.Frag} {T : List (Addr × Str)} {c : Ctx} {wd wd' : Wd} {env env' : PEnv} {σ σ' : L2.St} {H H' : Hp}
end
end Pd

namespace Pd
open PySem PySem.Spec PyProof.Rows L2 LamX
section
variable {X : Cx} {T : List (Addr × Str)} {E : XK} {k : Nat} {tg kx vx iter : Expr} {ifs : List Expr} {scope : Scope} {pos spos py : Pos}
end
end Pd

namespace Pd
open PySem PySem.Spec PyProof.Rows L2 LamX
section
variable {X : Cx} {T : List (Addr × Str)} {E : XK} {k : Nat}
end
end Pd

namespace Pd
open PySem PySem.Spec PyProof.Rows L2 LamX
section
variable {X : Cx} {T : List (Addr × Str)} {E : XK} {k : Nat}
end
end Pd

namespace Pd
open PySem PySem.Spec PyProof.Rows L2 LamX
section
variable {X : Cx} {T : List (Addr × Str)} {E : XK} {k : Nat}
end
end Pd

namespace Pd
open PySem PySem.Spec PyProof.Rows L2 LamX
section
variable {X : Cx} {T : List (Addr × Str)} {E : XK} {k : Nat}
end
end Pd

namespace Zm
open PySem PySem.Spec PyProof.Rows L2 PySem.SeqAt PySem.W
open AutoSeq1 (wpAny_loadPart')
open MeetsSeq MeetsSeq2 MeetsSeq3 SeqRoads2
section
variable {prog : Program} {w : World} {A : Around} {E : Value → Shared → Prop} {s : Shared}
end
end Zm

namespace Zm
open PySem PySem.Spec PyProof.Rows L2 PySem.SeqAt PySem.W
open AutoSeq1 (wpAny_loadPart')
section
variable {prog : Program} {w : World} {A : Around} {E : Value → Shared → Prop} {s : Shared}
end
end Zm
namespace Pd
open PySem PySem.Spec PyProof.Rows L2 LamX
abbrev NoStr (K : PySem.W.Frag) (C : Str) : Prop := PySem.W.subIn K (.ref (He.ga K C)) (.type "str") = some false
section
variable {X : Cx} {T : List (Addr × Str)} {E : XK} {k j : Nat}
def EqOks (X : Cx) (T : List (Addr × Str)) (k : Nat) : List (Str × Fn) → Prop
  | [] => True
  | (C, F) :: r => (∃ j, j < k ∧ MethOk X.prog X.w X.K X.mg X.base T C "__eq__" j F ∧ NoStr X.K C) ∧ EqOks X T k r
theorem EqOks.get {C : Str} {F : Fn} : ∀ {r : List (Str × Fn)}, EqOks X T k r → r.lookup C = some F → ∃ j, j < k ∧ MethOk X.prog X.w X.K X.mg X.base T C "__eq__" j F ∧ NoStr X.K C
  | (C', F') :: r, ⟨h, e⟩, q => by
    by_cases c : (C == C') = true
    · have : List.lookup C ((C', F') :: r) = some F' := by simp only [List.lookup, c]
      rw [this] at q
      cases q
      rw [eq_of_beq c]
      exact h
    · have c' : (C == C') = false := by simpa using c
      have : List.lookup C ((C', F') :: r) = r.lookup C := by simp only [List.lookup, c']
      rw [this] at q
      exact EqOks.get e q
end
end Pd

namespace Zm
open PySem PySem.Spec PyProof.Rows L2 PySem.W
open Builtin
theorem one_bind (self : Value) : bindSpecial (.builtin "object.__ne__") self = pure (.builtin "object.__ne__", [self]) := PySem.F.cmp_object.ne.bind self
section
variable {prog : Program} {w : World} {A : Around} {E : Value → Shared → Prop} {s : Shared} {K : Frag} {x C L f : Addr} {h₀ : Heap} {m : Str → Option Value} {ox : Obj} {od : Option Obj} {b tb : Value}
theorem ne_entry {R : Fin → Shared → Prop} (hu : A.units < cLine) (X : K.In s.heap) (I : InstAt s.heap x ox C od) (hs : findIn K (.ref C) "__eq__" = some (some (.ref f))) (hf : isFn K (.ref f) = true)
    (h : wpAny (model prog w) A (call (.ref f) [.ref x, b]) (fun v s' => ∃ t, v = .bool t ∧ R (.done (.ret (.bool (!t)))) s') E s) : wpAny (model prog w) A (Builtin.«object.__ne__» ⟨[.ref x, b], []⟩) R E s := by
  unfold Builtin.«object.__ne__»
  repeat (first
    | with_reducible refine wpAny_cRoomFor hu ?_
    | (refine wpAny_bind (m := callSpecialIfBound? (.ref x) (Str.ofString "__eq__") [b])
        (ifBound_K X I hs hf (wpAny_mono h (fun r s' hr => by
          obtain ⟨b, rfl, hq⟩ := hr
          repeat (first | exact hq | exact wpAny_pure hq | exact wpAny_truthy_bool hq | (refine wpAny_bind (m := truthy (.bool _)) (wpAny_truthy_bool ?_)) | wp_step)) fun _ _ e => e)))
    | wp_step)
theorem ne_K {Q : Value → Shared → Prop} (hu : A.units + 1 < cLine) (F : Fr h₀ L s.heap m) (X₀ : K.In h₀) (I : InstAt s.heap x ox C od) (hb : Looks (model prog w) s.heap (typeOf b) tb) (hn : notFirst K C tb = true)
    (hne : findIn K (.ref C) "__ne__" = some (some (.builtin "object.__ne__"))) (hob : subIn K (.ref C) (.type "object") = some true) (hs : findIn K (.ref C) "__eq__" = some (some (.ref f))) (hf : isFn K (.ref f) = true)
    (h : wpAny (model prog w) A.in1 (call (.ref f) [.ref x, b]) (fun v s' => ∃ t, v = .bool t ∧ Q (.bool (!t)) s') E s) : wpAny (model prog w) A (richCompare .NotEq (.ref x) b) Q E s := by
  have X := X₀.keeps F.keep
  have one : wpAny (model prog w) A (tryCompare (.ref x) (cmpInfo .NotEq).2.1 b) (fun r s' => ∃ v, r = some v ∧ Q v s') E s := by
    show wpAny (model prog w) A (tryCompare (.ref x) "__ne__" b) _ E s
    have sub : Looks (model prog w) s.heap (isInstance (.ref x) (.type "object")) true := I.type.andThen (looks_subIn X hob)
    have fin : wpAny (model prog w) A (call (.builtin "object.__ne__") ([.ref x] ++ [b])) (fun v s' => (match v with | .notImplemented => False | v => Q v s')) E s := by
      refine wpAny_call (codeAny_call_builtin PySem.F.cmp_object.ne.plain PySem.F.cmpEntry_ne (@check_slot (model prog w) _ _ s "object.__ne__" "object" "__ne__" (.ref x) [b] [] _ PySem.F.cmpKind_ne PySem.F.cmpSplit_ne sub (PySem.F.cmpArgs_ne _ _) ?_))
      refine ne_entry (A := A.in1) hu X I hs hf (wpAny_mono h (fun v s' hv => ?_) fun _ _ e => e)
      obtain ⟨t, rfl, q⟩ := hv
      exact ⟨t, rfl, q⟩
    unfold tryCompare
    simp only [callSpecialIfBound?, bindSpecialIfBound?]
    have fin2 : wpAny (model prog w) A (call (.builtin "object.__ne__") ([.ref x] ++ [b]) >>= fun v => pure (some v)) (fun r s' => ∃ v, r = some v ∧ (match v with | .notImplemented => False | v => Q v s')) E s :=
      wpAny_bind (wpAny_mono fin (fun v s' h' => wpAny_pure ⟨v, rfl, h'⟩) fun _ _ h' => h')
    refine wpAny_bind (wpAny_mono (Q := fun r s' => ∃ v, r = some v ∧ (match v with | .notImplemented => False | v => Q v s')) (wpAny_holding (wpAny_bind (wpAny_bind (wpAny_bind (I.type.here ((looks_findIn X hne).here ?_)))))) (fun r s' hr => ?_) fun _ _ e => e)
    · refine wpAny_bind (wpAny_askSetting (wpAny_ite ?_))
      simp only [one_bind]
      split
      · exact wpAny_bind (wpAny_pure (wpAny_pure fin2))
      · exact wpAny_tryCatch (wpAny_bind (wpAny_pure (wpAny_pure fin2)))
    · obtain ⟨v, rfl, hv⟩ := hr
      cases v <;> first | exact hv.elim | exact wpAny_pure ⟨_, rfl, hv⟩
  unfold richCompare
  simp only [oneThing_ref]
  refine wpAny_holding (wpAny_bind (wpAny_cRoomFor (Nat.lt_of_succ_lt hu) ?_))
  refine wpAny_bind (I.type.here (wpAny_bind (hb.here ?_)))
  split
  · rename_i q
    have e : subIn K tb (.ref C) = some false := by
      rcases Bool.or_eq_true_iff.mp hn with e | e
      · rw [beq_iff_eq.mp e] at q; simp at q
      · exact beq_iff_eq.mp e
    refine wpAny_bind ((looks_subIn X e).here ?_)
    simp only [Bool.false_eq_true, if_false]
    refine wpAny_bind (wpAny_mono one (fun r s' z => ?_) fun _ _ e => e)
    obtain ⟨v, rfl, hq⟩ := z
    exact wpAny_pure hq
  · refine wpAny_bind (wpAny_pure ?_)
    simp only [Bool.false_eq_true, if_false]
    refine wpAny_bind (wpAny_mono one (fun r s' z => ?_) fun _ _ e => e)
    obtain ⟨v, rfl, hq⟩ := z
    exact wpAny_pure hq
end
end Zm

namespace Pd
open PySem PySem.Spec PyProof.Rows L2 LamX
def neB (K : PySem.W.Frag) (C : Str) : Bool := decide (PySem.W.findIn K (.ref (He.ga K C)) "__ne__" = some (some (.builtin "object.__ne__"))) && decide (PySem.W.subIn K (.ref (He.ga K C)) (.type "object") = some true)
structure NeO (K : PySem.W.Frag) (C : Str) : Prop where
  ne : PySem.W.findIn K (.ref (He.ga K C)) "__ne__" = some (some (.builtin "object.__ne__"))
  ob : PySem.W.subIn K (.ref (He.ga K C)) (.type "object") = some true
theorem neB_ok {K : PySem.W.Frag} {C : Str} (h : neB K C = true) : NeO K C := by
  obtain ⟨h1, h2⟩ := He.ba h
  exact ⟨of_decide_eq_true h1, of_decide_eq_true h2⟩
section
variable {X : Cx} {T : List (Addr × Str)} {E : XK} {k : Nat}
def rNeO (C C' : Addr) (sp : Sp) (E : XK) : R2 := fun x y H Q => ∃ a b dx dy fs gs, x = .ref a ∧ y = .ref b ∧ H a = some (.ins C dx fs) ∧ H b = some (.ins C' dy gs) ∧ sp [x, y] H (fun v H' => ∃ t, v = .bl t ∧ Q (.bl (!t)) H') E
theorem op_neO {CX : CXT} {C C' f : Addr} {sp : Sp} {j : Nat} (F : FnR X.prog X.w X.K X.mg X.base CX j f sp) (hr : Room j X.A.in1) (hm : Meth X.K C "__eq__" f) (hn : PySem.W.notFirst X.K C (.ref C') = true)
    (ne : PySem.W.findIn X.K (.ref C) "__ne__" = some (some (.builtin "object.__ne__"))) (ob : PySem.W.subIn X.K (.ref C) (.type "object") = some true) (hx : Passes CX X E) : OpR X (compareOp .NotEq) (rNeO C C' sp E) := by
  intro pins s σ H x y v u Q I rx ry
  rintro ⟨a, b, dx, dy, fs, gs, rfl, rfl, one, two, told⟩
  cases rx
  cases ry
  obtain ⟨o1, k1⟩ := own_at I one
  obtain ⟨o2, k2⟩ := own_at I two
  have e := I.env0
  apply Zm.ne_K (by have := hr.un; show X.A.units + 1 < _; have e1 : X.A.in1.units = X.A.units + 1 := rfl; omega) I.fr.choose_spec I.ok.mod.kin k1 k2.type hn ne ob hm.at_ hm.fn
  refine wpAny_call (codeAny_mono (F X.A.in1 X.stack s H [.ref a, .ref b] [.ref a, .ref b] (fun v H' => ∃ t, v = .bl t ∧ Q (.bl (!t)) H') E hr ⟨e.frames, e.mod, e.bs, e.bsz, e.funs, e.frf, e.hok, e.bare⟩ (.cons rfl (.cons rfl .nil)) told) ?_)
  intro r s' hq
  cases r with
  | error e => exact hx pins σ H s e s' I hq
  | ok fl =>
    cases fl with
    | ret u =>
      obtain ⟨v, H2, I2, rv, t, rfl, q⟩ := I.after hq
      cases rv
      exact ⟨t, rfl, .bl (!t), H2, I2, rfl, q⟩
    | next => exact False.elim hq
    | brk => exact False.elim hq
    | cont => exact False.elim hq
def wNeO (C C' : Str) (F : Fn) (a b : W D) : W D := a.bind fun x => b.bind fun y env Q ex => match x, y with
  | .ins D1 fs, .ins D2 gs => D1 = C ∧ D2 = C' ∧ F [.ins D1 fs, .ins D2 gs] (fun d => ∃ t, d = .bl t ∧ Q (.bl (!t)) env) ex
  | _, _ => False
end
end Pd

namespace Hd
open PySem PySem.Spec PyProof.Rows L2
def top (i : Nat) : Stmt := PySem.Challenge.pw_sumsalone_k41_whole_tables_and_halves.main.body.getD i (.Pass ⟨0, 0, 0, 0⟩)
abbrev s_is_integer : Stmt := top 2
abbrev s_is_from : Stmt := top 3
abbrev s_is_ascending : Stmt := top 4
abbrev s_are_indices : Stmt := top 5
abbrev s_InvalidNumber_init : Stmt := inClass (top 11) 0
abbrev s_TooMany_init : Stmt := inClass (top 12) 0
abbrev s_is_cap : Stmt := top 19
abbrev s_is_line : Stmt := top 20
abbrev s_are_lines : Stmt := top 21
abbrev s_require_index : Stmt := top 22
abbrev s_Table_init : Stmt := inClass (top 23) 0
abbrev s_Table_of : Stmt := inClass (top 23) 1
abbrev s_Table_line_sums : Stmt := inClass (top 23) 4
abbrev s_Table_column_sums : Stmt := inClass (top 23) 5
abbrev s_Table_eq : Stmt := inClass (top 23) 14
abbrev s_are_results : Stmt := top 24
abbrev s_Tournament_init : Stmt := inClass (top 25) 0
abbrev s_Tournament_of : Stmt := inClass (top 25) 1
abbrev s_Tournament_scores : Stmt := inClass (top 25) 4
abbrev s_Tournament_beats : Stmt := inClass (top 25) 6
abbrev s_Tournament_eq : Stmt := inClass (top 25) 11
abbrev s_require_tournament : Stmt := top 27
abbrev s_table_of_tournament : Stmt := top 29
abbrev s_is_half : Stmt := top 30
abbrev s_is_half_table : Stmt := top 31
abbrev s_halves_of : Stmt := top 32
abbrev s_halved : Stmt := top 33
abbrev s_L_numbers : Stmt := top 35
abbrev s_L_cast : Stmt := top 36
abbrev s_L_pick : Stmt := top 37
abbrev s_L_odd_one : Stmt := top 38
abbrev s_L_any_wins : Stmt := top 39
abbrev s_L_played : Stmt := top 40
abbrev s_L_met : Stmt := top 41
abbrev s_L_lines : Stmt := top 42
abbrev s_L_exchanged : Stmt := top 43
abbrev s_L_is_half : Stmt := top 44
abbrev s_L_halved_right : Stmt := top 45
abbrev s_L_near_cells : Stmt := top 46
abbrev s_L_right : Stmt := top 47
abbrev s_law : Stmt := top 48
def d_is_integer : He.DefD := ⟨("is_integer", none), "is_integer", "is_integer", defArgs s_is_integer, defBody s_is_integer, defScope s_is_integer, [], []⟩
def d_is_from : He.DefD := ⟨("is_from", none), "is_from", "is_from", defArgs s_is_from, defBody s_is_from, defScope s_is_from, [], []⟩
def d_is_ascending : He.DefD := ⟨("is_ascending", none), "is_ascending", "is_ascending", defArgs s_is_ascending, defBody s_is_ascending, defScope s_is_ascending, [], []⟩
def d_are_indices : He.DefD := ⟨("are_indices", none), "are_indices", "are_indices", defArgs s_are_indices, defBody s_are_indices, defScope s_are_indices, [], []⟩
def d_is_cap : He.DefD := ⟨("is_cap", none), "is_cap", "is_cap", defArgs s_is_cap, defBody s_is_cap, defScope s_is_cap, [], []⟩
def d_is_line : He.DefD := ⟨("is_line", none), "is_line", "is_line", defArgs s_is_line, defBody s_is_line, defScope s_is_line, [], []⟩
def d_are_lines : He.DefD := ⟨("are_lines", none), "are_lines", "are_lines", defArgs s_are_lines, defBody s_are_lines, defScope s_are_lines, [], []⟩
def d_require_index : He.DefD := ⟨("require_index", none), "require_index", "require_index", defArgs s_require_index, defBody s_require_index, defScope s_require_index, [], []⟩
def d_Table_init : He.DefD := ⟨("Table", some "__init__"), "__init__", "Table.__init__", defArgs s_Table_init, defBody s_Table_init, defScope s_Table_init, [], []⟩
def d_Table_eq : He.DefD := ⟨("Table", some "__eq__"), "__eq__", "Table.__eq__", defArgs s_Table_eq, defBody s_Table_eq, defScope s_Table_eq, [], []⟩
def d_are_results : He.DefD := ⟨("are_results", none), "are_results", "are_results", defArgs s_are_results, defBody s_are_results, defScope s_are_results, [], []⟩
def d_Tournament_init : He.DefD := ⟨("Tournament", some "__init__"), "__init__", "Tournament.__init__", defArgs s_Tournament_init, defBody s_Tournament_init, defScope s_Tournament_init, [], []⟩
def d_Tournament_beats : He.DefD := ⟨("Tournament", some "beats"), "beats", "Tournament.beats", defArgs s_Tournament_beats, defBody s_Tournament_beats, defScope s_Tournament_beats, [], []⟩
def d_Tournament_eq : He.DefD := ⟨("Tournament", some "__eq__"), "__eq__", "Tournament.__eq__", defArgs s_Tournament_eq, defBody s_Tournament_eq, defScope s_Tournament_eq, [], []⟩
def d_require_tournament : He.DefD := ⟨("require_tournament", none), "require_tournament", "require_tournament", defArgs s_require_tournament, defBody s_require_tournament, defScope s_require_tournament, [], []⟩
def d_table_of_tournament : He.DefD := ⟨("table_of_tournament", none), "table_of_tournament", "table_of_tournament", defArgs s_table_of_tournament, defBody s_table_of_tournament, defScope s_table_of_tournament, [], []⟩
def d_is_half : He.DefD := ⟨("is_half", none), "is_half", "is_half", defArgs s_is_half, defBody s_is_half, defScope s_is_half, [], []⟩
def d_is_half_table : He.DefD := ⟨("is_half_table", none), "is_half_table", "is_half_table", defArgs s_is_half_table, defBody s_is_half_table, defScope s_is_half_table, [], []⟩
def d_halves_of : He.DefD := ⟨("halves_of", none), "halves_of", "halves_of", defArgs s_halves_of, defBody s_halves_of, defScope s_halves_of, [], []⟩
def d_halved : He.DefD := ⟨("halved", none), "halved", "halved", defArgs s_halved, defBody s_halved, defScope s_halved, [], []⟩
def d_L_numbers : He.DefD := ⟨("_law_numbers", none), "_law_numbers", "_law_numbers", defArgs s_L_numbers, defBody s_L_numbers, defScope s_L_numbers, [], []⟩
def d_L_cast : He.DefD := ⟨("_law_cast", none), "_law_cast", "_law_cast", defArgs s_L_cast, defBody s_L_cast, defScope s_L_cast, [], []⟩
def d_L_pick : He.DefD := ⟨("_law_pick", none), "_law_pick", "_law_pick", defArgs s_L_pick, defBody s_L_pick, defScope s_L_pick, [], []⟩
def d_L_odd_one : He.DefD := ⟨("_law_odd_one", none), "_law_odd_one", "_law_odd_one", defArgs s_L_odd_one, defBody s_L_odd_one, defScope s_L_odd_one, [], []⟩
def d_L_any_wins : He.DefD := ⟨("_law_any_wins", none), "_law_any_wins", "_law_any_wins", defArgs s_L_any_wins, defBody s_L_any_wins, defScope s_L_any_wins, [], []⟩
def d_L_played : He.DefD := ⟨("_law_played", none), "_law_played", "_law_played", defArgs s_L_played, defBody s_L_played, defScope s_L_played, [], []⟩
def d_L_met : He.DefD := ⟨("_law_met", none), "_law_met", "_law_met", defArgs s_L_met, defBody s_L_met, defScope s_L_met, [], []⟩
def d_L_lines : He.DefD := ⟨("_law_lines", none), "_law_lines", "_law_lines", defArgs s_L_lines, defBody s_L_lines, defScope s_L_lines, [], []⟩
def d_L_exchanged : He.DefD := ⟨("_law_exchanged", none), "_law_exchanged", "_law_exchanged", defArgs s_L_exchanged, defBody s_L_exchanged, defScope s_L_exchanged, [], []⟩
def d_L_is_half : He.DefD := ⟨("_law_is_half", none), "_law_is_half", "_law_is_half", defArgs s_L_is_half, defBody s_L_is_half, defScope s_L_is_half, [], []⟩
def d_L_halved_right : He.DefD := ⟨("_law_halved_right", none), "_law_halved_right", "_law_halved_right", defArgs s_L_halved_right, defBody s_L_halved_right, defScope s_L_halved_right, [], []⟩
def d_L_near_cells : He.DefD := ⟨("_law_near_cells", none), "_law_near_cells", "_law_near_cells", defArgs s_L_near_cells, defBody s_L_near_cells, defScope s_L_near_cells, [], []⟩
def d_L_right : He.DefD := ⟨("_law_right", none), "_law_right", "_law_right", defArgs s_L_right, defBody s_L_right, defScope s_L_right, [], []⟩
def d_law : He.DefD := ⟨("law", none), "law", "law", defArgs s_law, defBody s_law, defScope s_law, [], []⟩
def fn0 : List He.DefD := [d_is_integer, d_is_from, d_is_ascending, d_are_indices, d_is_cap, d_is_line, d_are_lines, d_require_index, d_Table_init, d_Table_eq, d_are_results, d_Tournament_init, d_Tournament_beats, d_Tournament_eq, d_require_tournament, d_table_of_tournament, d_is_half, d_is_half_table, d_halves_of, d_halved, d_L_numbers, d_L_cast, d_L_pick, d_L_odd_one, d_L_any_wins, d_L_played, d_L_met, d_L_lines, d_L_exchanged, d_L_is_half]
def fn1 : List He.DefD := [d_L_halved_right, d_L_near_cells, d_L_right, d_law]
def fn : List He.DefD := fn0 ++ fn1
def fa0 : List He.Fa := [.glo "is_integer", .glo "is_from", .glo "is_ascending", .glo "are_indices", .glo "is_cap", .glo "is_line", .glo "are_lines", .glo "require_index", .glo "are_results", .glo "require_tournament", .glo "table_of_tournament", .glo "is_half", .glo "is_half_table", .glo "halves_of", .glo "halved", .glo "_law_numbers", .glo "_law_cast", .glo "_law_pick", .glo "_law_odd_one", .glo "_law_any_wins", .glo "_law_played", .glo "_law_met", .glo "_law_lines", .glo "_law_exchanged", .glo "_law_is_half", .glo "_law_halved_right", .glo "_law_near_cells", .glo "_law_right", .glo "law", .glo "InvalidTable"]
def fa1 : List He.Fa := [.glo "InvalidTournament", .glo "InvalidOperation", .glo "InvalidNumber", .glo "TooMany", .glo "Table", .glo "Tournament", .free "abs", .free "all", .free "any", .free "bool", .free "classmethod", .free "enumerate", .free "int", .free "isinstance", .free "len", .free "list", .free "max", .free "min", .free "property", .free "range", .free "sorted", .free "sum", .free "super", .free "tuple", .free "zip", .int "MAX_CAP" 9, .int "MAX_LINES" 12, .int "MAX_PLACES" 16, .exc "InvalidOperation", .exc "InvalidTable"]
def fa2 : List He.Fa := [.exc "InvalidTournament", .cls "Table", .cls "Tournament", .mkr "Table", .mkr "Tournament", .meth "Table" "__eq__", .meth "Tournament" "beats", .meth "Tournament" "__eq__", .noat "Table" "own_cap", .noat "Table" "own_lines", .noat "Tournament" "own_beaten"]
def fa : List He.Fa := fa0 ++ fa1 ++ fa2
def loose0 : List Str := ["_wall", "is_integer", "is_from", "is_ascending", "are_indices", "SumError", "InvalidTable", "InvalidTournament", "InvalidOperation", "InvalidNumber", "TooMany", "MAX_CAP", "MAX_LINES", "MAX_PLACES", "TABLE", "TOURNAMENT", "is_cap", "is_line", "are_lines", "require_index", "Table", "are_results", "Tournament", "require_tournament", "table_of_tournament", "is_half", "is_half_table", "halves_of", "halved", "_law_numbers"]
def loose1 : List Str := ["_law_cast", "_law_pick", "_law_odd_one", "_law_any_wins", "_law_played", "_law_met", "_law_lines", "_law_exchanged", "_law_is_half", "_law_halved_right", "_law_near_cells", "_law_right"]
def loose : List Str := loose0 ++ loose1
abbrev R : PySem.W.OpenRow := PySem.W.OpenLaw.row PySem.Challenge.rw_sumsalone_k41_whole_tables_and_halves
def ex (K : PySem.W.Frag) : Bool := (((["InvalidOperation"] : List Str)).all fun y => ((["InvalidOperation"] : List Str)).all fun h => decide (PySem.W.exmOne K (.ref (He.ga K y)) (.ref (He.ga K h)) = some (decide (h = y)))) && (Pd.exfB K "InvalidNumber" "IndexError" "IndexError.__init__" "IndexError.__new__" [.type "IndexError", .type "LookupError", .type "Exception", .type "BaseException", .type "object"] "value" && (Pd.iniB K (PySem.Challenge.pw_sumsalone_k41_whole_tables_and_halves.main.file : Str) "InvalidNumber" && (Pd.exfB K "TooMany" "OverflowError" "OverflowError.__init__" "OverflowError.__new__" [.type "OverflowError", .type "ArithmeticError", .type "Exception", .type "BaseException", .type "object"] "limit" && (Pd.iniB K (PySem.Challenge.pw_sumsalone_k41_whole_tables_and_halves.main.file : Str) "TooMany" && (Pd.cmB K "Table" "of" && (Pd.cmB K "Tournament" "of" && (Pd.isCB K "Table" ["Table", "Tournament"] && (Pd.isCB K "Tournament" ["Table", "Tournament"] && (Pd.neB K "Table" && (Pd.neB K "Tournament" && (Pd.propB K "Table" "column_sums" && (Pd.propB K "Table" "line_sums" && (Pd.propB K "Tournament" "scores" && (true))))))))))))))
theorem ex_0 {K : PySem.W.Frag} (h : ex K = true) : ((((["InvalidOperation"] : List Str)).all fun y => ((["InvalidOperation"] : List Str)).all fun h => decide (PySem.W.exmOne K (.ref (He.ga K y)) (.ref (He.ga K h)) = some (decide (h = y))))) = true := (He.ba h).1
theorem ex_1 {K : PySem.W.Frag} (h : ex K = true) : (Pd.exfB K "InvalidNumber" "IndexError" "IndexError.__init__" "IndexError.__new__" [.type "IndexError", .type "LookupError", .type "Exception", .type "BaseException", .type "object"] "value") = true := (He.ba (He.ba h).2).1
theorem ex_2 {K : PySem.W.Frag} (h : ex K = true) : (Pd.iniB K (PySem.Challenge.pw_sumsalone_k41_whole_tables_and_halves.main.file : Str) "InvalidNumber") = true := (He.ba (He.ba (He.ba h).2).2).1
theorem ex_3 {K : PySem.W.Frag} (h : ex K = true) : (Pd.exfB K "TooMany" "OverflowError" "OverflowError.__init__" "OverflowError.__new__" [.type "OverflowError", .type "ArithmeticError", .type "Exception", .type "BaseException", .type "object"] "limit") = true := (He.ba (He.ba (He.ba (He.ba h).2).2).2).1
theorem ex_4 {K : PySem.W.Frag} (h : ex K = true) : (Pd.iniB K (PySem.Challenge.pw_sumsalone_k41_whole_tables_and_halves.main.file : Str) "TooMany") = true := (He.ba (He.ba (He.ba (He.ba (He.ba h).2).2).2).2).1
theorem ex_5 {K : PySem.W.Frag} (h : ex K = true) : (Pd.cmB K "Table" "of") = true := (He.ba (He.ba (He.ba (He.ba (He.ba (He.ba h).2).2).2).2).2).1
theorem ex_6 {K : PySem.W.Frag} (h : ex K = true) : (Pd.cmB K "Tournament" "of") = true := (He.ba (He.ba (He.ba (He.ba (He.ba (He.ba (He.ba h).2).2).2).2).2).2).1
theorem ex_7 {K : PySem.W.Frag} (h : ex K = true) : (Pd.isCB K "Table" ["Table", "Tournament"]) = true := (He.ba (He.ba (He.ba (He.ba (He.ba (He.ba (He.ba (He.ba h).2).2).2).2).2).2).2).1
theorem ex_8 {K : PySem.W.Frag} (h : ex K = true) : (Pd.isCB K "Tournament" ["Table", "Tournament"]) = true := (He.ba (He.ba (He.ba (He.ba (He.ba (He.ba (He.ba (He.ba (He.ba h).2).2).2).2).2).2).2).2).1
theorem ex_9 {K : PySem.W.Frag} (h : ex K = true) : (Pd.neB K "Table") = true := (He.ba (He.ba (He.ba (He.ba (He.ba (He.ba (He.ba (He.ba (He.ba (He.ba h).2).2).2).2).2).2).2).2).2).1
theorem ex_10 {K : PySem.W.Frag} (h : ex K = true) : (Pd.neB K "Tournament") = true := (He.ba (He.ba (He.ba (He.ba (He.ba (He.ba (He.ba (He.ba (He.ba (He.ba (He.ba h).2).2).2).2).2).2).2).2).2).2).1
theorem ex_11 {K : PySem.W.Frag} (h : ex K = true) : (Pd.propB K "Table" "column_sums") = true := (He.ba (He.ba (He.ba (He.ba (He.ba (He.ba (He.ba (He.ba (He.ba (He.ba (He.ba (He.ba h).2).2).2).2).2).2).2).2).2).2).2).1
theorem ex_12 {K : PySem.W.Frag} (h : ex K = true) : (Pd.propB K "Table" "line_sums") = true := (He.ba (He.ba (He.ba (He.ba (He.ba (He.ba (He.ba (He.ba (He.ba (He.ba (He.ba (He.ba (He.ba h).2).2).2).2).2).2).2).2).2).2).2).2).1
theorem ex_13 {K : PySem.W.Frag} (h : ex K = true) : (Pd.propB K "Tournament" "scores") = true := (He.ba (He.ba (He.ba (He.ba (He.ba (He.ba (He.ba (He.ba (He.ba (He.ba (He.ba (He.ba (He.ba (He.ba h).2).2).2).2).2).2).2).2).2).2).2).2).2).1
def xi : List Pd.IniD := [⟨"InvalidNumber", s_InvalidNumber_init⟩, ⟨"TooMany", s_TooMany_init⟩]
theorem xi_0 {K : PySem.W.Frag} (h : xi.map (fun d => Pd.iniObs K d.C) = xi.map Pd.IniD.val) : Pd.iniObs K "InvalidNumber" = Pd.IniD.val ⟨"InvalidNumber", s_InvalidNumber_init⟩ := (List.cons.inj h).1
theorem xi_1 {K : PySem.W.Frag} (h : xi.map (fun d => Pd.iniObs K d.C) = xi.map Pd.IniD.val) : Pd.iniObs K "TooMany" = Pd.IniD.val ⟨"TooMany", s_TooMany_init⟩ := (List.cons.inj (List.cons.inj h).2).1
def tf : List Str := ["_law_right"]
def a_Table_of : He5.DefA := ⟨fun K => He5.wf K (He.ga K "Table") "classmethod" "of", "of", "Table.of", defArgs s_Table_of, defBody s_Table_of, defScope s_Table_of, [], []⟩
def a_Tournament_of : He5.DefA := ⟨fun K => He5.wf K (He.ga K "Tournament") "classmethod" "of", "of", "Tournament.of", defArgs s_Tournament_of, defBody s_Tournament_of, defScope s_Tournament_of, [], []⟩
def a_Table_column_sums : He5.DefA := ⟨fun K => He5.wf K (He.ga K "Table") "property" "column_sums", "column_sums", "Table.column_sums", defArgs s_Table_column_sums, defBody s_Table_column_sums, defScope s_Table_column_sums, [], []⟩
def a_Table_line_sums : He5.DefA := ⟨fun K => He5.wf K (He.ga K "Table") "property" "line_sums", "line_sums", "Table.line_sums", defArgs s_Table_line_sums, defBody s_Table_line_sums, defScope s_Table_line_sums, [], []⟩
def a_Tournament_scores : He5.DefA := ⟨fun K => He5.wf K (He.ga K "Tournament") "property" "scores", "scores", "Tournament.scores", defArgs s_Tournament_scores, defBody s_Tournament_scores, defScope s_Tournament_scores, [], []⟩
def fb : List He5.DefA := [a_Table_of, a_Tournament_of, a_Table_column_sums, a_Table_line_sums, a_Tournament_scores]
abbrev hk : PySem.W.Hook := Pd.hookV 6 fa fn fb xi tf ex
def ob (s : PySem.W.SharedT) : Pd.AlZ := Pd.obsV 6 fa fn fb xi tf ex (HandSHeadRun.getT s)
theorem ob_eq (s : PySem.W.SharedT) : ob s = hk.obs s.abs := Pd.obsV_eq (HandSHeadRun.getT_eq s)
theorem run1 (w : World) : Pd.Run1 R 12000 w := by
  intro os
  kernel_rfl
theorem run2 (w : World) : Pd.Run2 R (PySem.W.view R.prog [48]) 12000 loose w := by
  intro os
  kernel_rfl
theorem run3 (w : World) : Pd.Run3 R hk ob 12000 w := by
  intro os
  kernel_rfl
theorem run (w : World) : HandSHeadRun.RunEq R (PySem.W.view R.prog [48]) hk ob 12000 loose w := Pd.runEq_of (run1 w) (run2 w) (run3 w)
end Hd

namespace Pd
open PySem PySem.Spec PyProof.Rows L2 LamX
theorem forW_ind {g : WG} {b : (PEnv → Prop) → PEnv → Prop} {fin : PEnv → Prop} (I : List D → PEnv → Prop)
    (step : ∀ x rest env, I (x :: rest) env → (∀ env', I rest env' → forW g b fin rest env') → g x env fun env' => b (forW g b fin rest) env') (done : ∀ env, I [] env → fin env) : ∀ xs env, I xs env → forW g b fin xs env
  | [], env, h => done env h
  | x :: rest, env, h => step x rest env h fun env' h' => forW_ind I step done rest env' h'
theorem compW_ind {g : WG} {t : W Bool} {e : W D} {vs : List Nat} {Q : List D → PEnv → Prop} (I : List D → PEnv → List D → Prop)
    (step : ∀ x rest env acc, I (x :: rest) env acc → (∀ env' acc', I rest env' acc' → compW g t e vs Q rest env' acc') → compW g t e vs Q (x :: rest) env acc) (done : ∀ env acc, I [] env acc → Q acc env) : ∀ xs env acc, I xs env acc → compW g t e vs Q xs env acc
  | [], env, acc, h => done env acc h
  | x :: rest, env, acc, h => step x rest env acc h fun env' acc' h' => compW_ind I step done rest env' acc' h'
abbrev Ti (ns : List Int) : D := .tup (ns.map D.int)
abbrev Li (ns : List Int) : D := .lst (ns.map D.int)
def isI : D → Bool
  | .int _ => true
  | _ => false
def inR (x : D) (a b : Int) : Bool := match x with
  | .int i => decide (a ≤ i) && decide (i ≤ b)
  | _ => false
abbrev maxN : Int := 999999999999999999999999999999
def kd (x : D) : Prop := (dTy x).isSome = true
def kds (x : D) : Prop := kd x ∧ ∀ xs, x = .tup xs → ∀ y ∈ xs, kd y
theorem plain_ints : ∀ ns : List Int, (ns.map D.int).all (plain 50) = true := fun ns => by
  rw [List.all_map]
  exact List.all_eq_true.mpr fun x _ => rfl
theorem toPy_ints (ns : List Int) : (ns.map D.int).map toPy = ns.map PyData.int := by
  rw [List.map_map]
  rfl
def dn (ns : List Int) : List Int := ns.mergeSort fun a b => decide (b ≤ a)
def up (ns : List Int) : List Int := ns.mergeSort fun a b => decide (a ≤ b)
theorem alike_int_all (ns : List Int) : PySem.W.AllAlike (ns.map PyData.int) := fun d hd d' hd' => by
  obtain ⟨a, _, rfl⟩ := List.mem_map.mp hd
  obtain ⟨b, _, rfl⟩ := List.mem_map.mp hd'
  rfl
theorem srt_ints (ns : List Int) : Srt (ns.map D.int) := by
  refine ⟨plain_ints ns, by rw [toPy_ints]; exact alike_int_all ns, .inr fun d hd => ?_⟩
  rw [toPy_ints] at hd
  obtain ⟨a, _, rfl⟩ := List.mem_map.mp hd
  exact ⟨(fun z => by cases z), (fun xs z => by cases z)⟩
theorem ms_up (ns : List Int) : (ns.map D.int).mergeSort (leD false) = (up ns).map D.int :=
  (List.map_mergeSort (r := fun a b : Int => decide (a ≤ b)) (s := leD false) (f := D.int) (fun a _ b _ => (congrFun (congrFun (PySem.W.dataLe_int (fun b : Int => b)) a) b).symm)).symm
theorem up_perm (ns : List Int) : (up ns).Perm ns := List.mergeSort_perm _ _
theorem up_sorted (ns : List Int) : (up ns).Pairwise fun a b => a ≤ b := by
  have h := List.pairwise_mergeSort (le := fun a b : Int => decide (a ≤ b)) (fun a b c h1 h2 => decide_eq_true (Int.le_trans (of_decide_eq_true h1) (of_decide_eq_true h2))) (fun a b => by
    by_cases h : a ≤ b
    · simp [h]
    · have : b ≤ a := by omega
      simp [this]) ns
  exact h.imp fun h => of_decide_eq_true h
def F_is_integer : Fn := fun ds Q _ => ∃ x, ds = [x] ∧ kd x ∧ Q (.bl (isI x))
def F_is_from : Fn := fun ds Q _ => ∃ x a b, ds = [x, .int a, .int b] ∧ kd x ∧ Q (.bl (inR x a b))
def F_draw : Fn := fun ds Q _ => ∃ p n, ds = [.box p, .int n] ∧ 0 < n ∧ n < 2 ^ 200 ∧ ∀ r, 0 ≤ r → r < n → Q (.int r)
def F_pick : Fn := fun ds Q _ => ∃ p x xs, ds = [.box p, x] ∧ dItems x = some xs ∧ xs ≠ [] ∧ xs.length ≤ 1000000 ∧ ∀ y ∈ xs, Q y
def F_newbox : Fn := fun ds Q _ => ∃ ns i, ds = [.scr ns, .int i] ∧ 0 ≤ i ∧ i ≤ 1000 ∧ ns.length ≤ 1000 ∧ ∀ p, Q (.box p)
theorem pure_is_integer (ds : List D) (Q : D → Prop) (Ex : Xc → Prop) (h : F_is_integer ds Q Ex) : (sRet (wAnd (w1 (dIsi "int") (wVar 0)) (wNot (w1 (dIsi "bool") (wVar 0))))) (dEnds Q Ex) (startE ["value"] ds) := by
  obtain ⟨x, rfl, k, q⟩ := h
  cases x with
  | int i => exact br_tt rfl q
  | bl b => exact br_tt rfl q
  | non => exact br_ff rfl q
  | str x => exact br_ff rfl q
  | tup x => exact br_ff rfl q
  | lst x => exact br_ff rfl q
  | dic x => exact br_ff rfl q
  | _ => cases k
theorem pure_is_from (ds : List D) (Q : D → Prop) (Ex : Xc → Prop) (h : F_is_from ds Q Ex) : (sRet (wAnd (wCall F_is_integer (wCons (wVar 0) wNil)) (wChain dLe dLe (wVar 1) (wVar 0) (wVar 2)))) (dEnds Q Ex) (startE ["value", "first", "last"] ds) := by
  obtain ⟨x, a, b, rfl, k, q⟩ := h
  refine ⟨x, rfl, k, br_of (fun h => ?_) (fun h => ?_)⟩
  · cases x with
    | int i =>
      refine br_if (fun h1 => ?_) (fun h1 => ?_)
      · have e : inR (.int i) a b = decide (i ≤ b) := by simp [inR, h1]
        rw [e] at q
        exact q
      · have e : inR (.int i) a b = false := by simp [inR, h1]
        rw [e] at q
        exact q
    | _ => cases h
  · have e : inR x a b = false := by
      cases x with
      | int i => cases h
      | _ => rfl
    rw [e] at q
    exact q
theorem comp_enc {α : Type} {v : Nat} {t : W Bool} {e : W D} {Q : List D → PEnv → Prop} (E : Option Sl → PEnv) (enc h : α → D) (p : α → Bool) : ∀ (as : List α) (s0 : Option Sl) (acc : List D), (∀ s x, (wipeE (E s) [v]).set v (some (.d x)) = E (some (.d x))) →
    (∀ a ∈ as, ∀ (K : Bool → PEnv → Prop) ex, K (p a) (E (some (.d (enc a)))) → t (E (some (.d (enc a)))) K ex) → (∀ a ∈ as, p a = true → ∀ (K : D → PEnv → Prop) ex, K (h a) (E (some (.d (enc a)))) → e (E (some (.d (enc a)))) K ex) →
    (∀ s, Q (acc ++ ((as.filter p).map h)) (E s)) → compW (gNm v) t e [v] Q (as.map enc) (E s0) acc
  | [], s0, acc, _, _, _, hQ => by
    have := hQ s0
    simpa [compW] using this
  | a :: as, s0, acc, hE, ht, he, hQ => by
    show t ((wipeE (E s0) [v]).set v (some (.d (enc a)))) _ _
    rw [hE]
    refine ht a List.mem_cons_self _ _ (br_of (fun hp => ?_) (fun hp => ?_))
    · refine he a List.mem_cons_self hp _ _ (comp_enc E enc h p as _ _ hE (fun b hb => ht b (List.mem_cons_of_mem _ hb)) (fun b hb => he b (List.mem_cons_of_mem _ hb)) fun s => ?_)
      have := hQ s
      rw [List.filter_cons_of_pos hp, List.map_cons] at this
      rw [List.append_assoc]
      exact this
    · refine comp_enc E enc h p as _ _ hE (fun b hb => ht b (List.mem_cons_of_mem _ hb)) (fun b hb => he b (List.mem_cons_of_mem _ hb)) fun s => ?_
      have := hQ s
      rw [List.filter_cons_of_neg (by rw [hp]; exact Bool.false_ne_true)] at this
      exact this
theorem comp_all {α : Type} {v : Nat} {e : W D} {Q : List D → PEnv → Prop} (E : Option Sl → PEnv) (enc h : α → D) (as : List α) (s0 : Option Sl) (acc : List D) (hE : ∀ s x, (wipeE (E s) [v]).set v (some (.d x)) = E (some (.d x)))
    (he : ∀ a ∈ as, ∀ (K : D → PEnv → Prop) ex, K (h a) (E (some (.d (enc a)))) → e (E (some (.d (enc a)))) K ex) (hQ : ∀ s, Q (acc ++ as.map h) (E s)) : compW (gNm v) (W.ret true) e [v] Q (as.map enc) (E s0) acc :=
  comp_enc E enc h (fun _ => true) as s0 acc hE (fun a ha K ex k => k) (fun a ha _ => he a ha) fun s => by
    rw [List.filter_eq_self.mpr fun _ _ => rfl]
    exact hQ s
theorem comp_pair {α : Type} {v u : Nat} {t : W Bool} {e : W D} {Q : List D → PEnv → Prop} (E : Option Sl → Option Sl → PEnv) (e1 e2 h : α → D) (p : α → Bool) : ∀ (as : List α) (s0 s1 : Option Sl) (acc : List D), (∀ s z x y, ((wipeE (E s z) [v, u]).set v (some (.d x))).set u (some (.d y)) = E (some (.d x)) (some (.d y))) →
    (∀ a ∈ as, ∀ (K : Bool → PEnv → Prop) ex, K (p a) (E (some (.d (e1 a))) (some (.d (e2 a)))) → t (E (some (.d (e1 a))) (some (.d (e2 a)))) K ex) → (∀ a ∈ as, p a = true → ∀ (K : D → PEnv → Prop) ex, K (h a) (E (some (.d (e1 a))) (some (.d (e2 a)))) → e (E (some (.d (e1 a))) (some (.d (e2 a)))) K ex) →
    (∀ s z, Q (acc ++ ((as.filter p).map h)) (E s z)) → compW (gTupP (gsCons (gNm v) (gsCons (gNm u) gsNil)) 2) t e [v, u] Q (as.map fun a => .tup [e1 a, e2 a]) (E s0 s1) acc
  | [], s0, s1, acc, _, _, _, hQ => by
    have := hQ s0 s1
    simpa [compW] using this
  | a :: as, s0, s1, acc, hE, ht, he, hQ => by
    refine ⟨rfl, ?_⟩
    show t (((wipeE (E s0 s1) [v, u]).set v (some (.d (e1 a)))).set u (some (.d (e2 a)))) _ _
    rw [hE]
    refine ht a List.mem_cons_self _ _ (br_of (fun hp => ?_) (fun hp => ?_))
    · refine he a List.mem_cons_self hp _ _ (comp_pair E e1 e2 h p as _ _ _ hE (fun b hb => ht b (List.mem_cons_of_mem _ hb)) (fun b hb => he b (List.mem_cons_of_mem _ hb)) fun s z => ?_)
      have := hQ s z
      rw [List.filter_cons_of_pos hp, List.map_cons] at this
      rw [List.append_assoc]
      exact this
    · refine comp_pair E e1 e2 h p as _ _ _ hE (fun b hb => ht b (List.mem_cons_of_mem _ hb)) (fun b hb => he b (List.mem_cons_of_mem _ hb)) fun s z => ?_
      have := hQ s z
      rw [List.filter_cons_of_neg (by rw [hp]; exact Bool.false_ne_true)] at this
      exact this
theorem cut_from {α : Type} (xs : List α) (k : Nat) : Pd.cutD xs (some (k : Int)) none = xs.drop k := by
  unfold Pd.cutD
  rw [HT.sIx_nat, HT.sIx_none]
  by_cases h : k ≤ xs.length
  · rw [Nat.min_eq_left h]
    exact List.take_of_length_le (by rw [List.length_drop]; exact Nat.le_refl _)
  · rw [Nat.min_eq_right (by omega), Nat.sub_self, List.take_zero, List.drop_eq_nil_of_le (by omega)]
theorem upTo_nil {a b : Int} (h : b ≤ a) : Pd.upTo a b = [] := by
  unfold Pd.upTo
  have : (b - a).toNat = 0 := by omega
  rw [this]
  rfl
theorem upTo_cons {a b : Int} (h : a < b) : Pd.upTo a b = .int a :: Pd.upTo (a + 1) b := by
  unfold Pd.upTo
  have e : (b - a).toNat = (b - (a + 1)).toNat + 1 := by omega
  rw [e, List.range_succ_eq_map, List.map_cons, List.map_map]
  refine List.cons_eq_cons.mpr ⟨?_, List.map_congr_left fun k _ => ?_⟩
  · simp
  · show D.int (a + ((k + 1 : Nat) : Int)) = D.int (a + 1 + (k : Int))
    have : a + ((k + 1 : Nat) : Int) = a + 1 + (k : Int) := by omega
    rw [this]
theorem upTo_len' (a b : Int) : (Pd.upTo a b).length = (b - a).toNat := by
  unfold Pd.upTo
  rw [List.length_map, List.length_range]
end Pd

namespace Ts
open PySem PySem.Spec PyProof.Rows L2 LamX Pd
abbrev F_is_integer := Pd.F_is_integer
abbrev F_is_from := Pd.F_is_from
abbrev F_L_cast := Pd.F_draw
abbrev F_L_numbers := Pd.F_newbox
def tri (k : Int) : Int := k * (k - 1) / 2
def df (e : List Int) (k : Nat) : Int := tri k - (e.take k).sum
def dfs (ns : List Int) : List Int := (List.range (ns.length + 1)).map (df (up ns))
def mxd (ns : List Int) : Int := ((dfs ns).tail).foldl max ((dfs ns).headD 0)
def poss (ns : List Int) : Bool := decide (mxd ns = 0) && decide (df (up ns) ns.length = 0)
def gtv (ns : List Int) (p : Nat) : Int := ns.getD p 0
def dset (ns : List Int) (ps : List Nat) : Int := tri ps.length - (ps.map (gtv ns)).sum
def subs : Nat → List (List Nat)
  | 0 => [[]]
  | m + 1 => subs m ++ (subs m).map fun ps => ps ++ [m]
def rowI (ns : List Int) : Prop := ns ≠ [] ∧ ns.length ≤ 64 ∧ ∀ n ∈ ns, 0 ≤ n ∧ n ≤ maxN
end Ts

namespace Ts
open PySem PySem.Spec PyProof.Rows L2 LamX Pd
def N_is_integer : List Str := ["value"]
def w_is_integer : WS := (sRet (wAnd (w1 (dIsi "int") (wVar 0)) (wNot (w1 (dIsi "bool") (wVar 0)))))
def N_is_from : List Str := ["value", "first", "last"]
def w_is_from : WS := (sRet (wAnd (wCall F_is_integer (wCons (wVar 0) wNil)) (wChain dLe dLe (wVar 1) (wVar 0) (wVar 2))))
def N_L_cast : List Str := ["_law_die", "_law_total", "_law_one", "_law_two", "_law_found"]
def w_L_cast : WS := (sSeq (sIf (wTest (wBin dGt (wBoxGet (wVar 0) (W.ret (.int 0))) (W.ret (.int 0)))) (sSeq (sSet 4 (xBin fMod (w1 dInt (wBoxGet (wVar 0) (W.ret (.int 0)))) (wVar 1))) (sSeq (sBoxSet 0 0 (xBin fDiv (wBoxGet (wVar 0) (W.ret (.int 0))) (wVar 1))) (sRet (wVar 4)))) sNil) (sSeq (sBoxSet 0 2 (xBin fAdd (wBoxGet (wVar 0) (W.ret (.int 2))) (W.ret (.int 1)))) (sSeq (sSet 2 (xBin fMod (w1 dInt (xBin fAdd (wBoxGet (wVar 0) (W.ret (.int 1))) (xBin fMul (W.ret (.int 715225739)) (wBoxGet (wVar 0) (W.ret (.int 2)))))) (W.ret (.int 2305843009213693867)))) (sSeq (sSet 3 (xBin fAdd (xBin fMul (xBin fMod (w1 dInt (xBin fMul (wVar 2) (wVar 2))) (W.ret (.int 1152921504606846697))) (wVar 2)) (xBin fMul (W.ret (.int 6991)) (wBoxGet (wVar 0) (W.ret (.int 2)))))) (sRet (xBin fMod (w1 dInt (xBin fDiv (xBin fMod (w1 dInt (xBin fAdd (wVar 3) (wBoxGet (wVar 0) (W.ret (.int 1))))) (W.ret (.int 8796093022093))) (W.ret (.int 64)))) (wVar 1)))))))
def N_L_numbers : List Str := ["_law_script", "_law_at", "_law_cell", "_law_whole", "_law_mixed"]
def w_L_numbers : WS := (sSeq (sSet 2 (wIf (wTest (wBin dLt (wVar 1) (w1 dLen (wVar 0)))) (xBin fIdx (wVar 0) (wVar 1)) (xBin fAdd (xBin fMul (W.ret (.int 71)) (wVar 1)) (W.ret (.int 43))))) (sSeq (sSet 3 (xBin fMod (w1 dInt (wN dAbs (wCons (wVar 2) wNil))) (xBin fPow (xBin fPow (W.ret (.int 10)) (W.ret (.int 61))) (W.ret (.int 9))))) (sSeq (sSet 4 (xBin fAdd (xBin fAdd (xBin fAdd (xBin fMul (wVar 3) (W.ret (.int 1000187))) (xBin fMul (W.ret (.int 9043)) (wVar 1))) (xBin fMul (W.ret (.int 53)) (w1 dInt (wBin dLt (wVar 2) (W.ret (.int 0)))))) (W.ret (.int 29)))) (sRet (wBox (wSz (wCons (wN dMax2 (wCons (W.ret (.int 0)) (wCons (wBin dSub (wVar 3) (xBin fPow (W.ret (.int 10)) (W.ret (.int 18)))) wNil))) (wCons (xBin fMod (w1 dInt (wVar 4)) (W.ret (.int 1152921504606847067))) (wCons (W.ret (.int 0)) wNil)))))))))
end Ts

namespace Ts
open Pd
theorem mx_ge (l : List Int) (a : Int) : a ≤ l.foldl max a ∧ ∀ x ∈ l, x ≤ l.foldl max a := by
  induction l generalizing a with
  | nil => exact ⟨Int.le_refl _, fun x h => by cases h⟩
  | cons b l ih =>
    obtain ⟨h1, h2⟩ := ih (max a b)
    refine ⟨by show a ≤ l.foldl max (max a b); omega, fun x hx => ?_⟩
    show x ≤ l.foldl max (max a b)
    rcases List.mem_cons.mp hx with rfl | hx
    · omega
    · exact h2 x hx
theorem mx_mem (l : List Int) (a : Int) : l.foldl max a ∈ a :: l := by
  induction l generalizing a with
  | nil => simp
  | cons b l ih =>
    have := ih (max a b)
    show l.foldl max (max a b) ∈ a :: b :: l
    rcases List.mem_cons.mp this with e | e
    · rw [e]
      by_cases h : a ≤ b
      · rw [Int.max_eq_right h]; simp
      · rw [Int.max_eq_left (by omega)]; simp
    · simp [e]
theorem mx_in {l : List Int} {a x : Int} (h : x ∈ a :: l) : x ≤ l.foldl max a := by
  rcases List.mem_cons.mp h with rfl | h
  · exact (mx_ge l _).1
  · exact (mx_ge l a).2 x h
theorem dfs_cons (ns : List Int) : dfs ns = 0 :: (List.range ns.length).map fun k => df (up ns) (k + 1) := by
  unfold dfs
  rw [List.range_succ_eq_map, List.map_cons, List.map_map]
  refine List.cons_eq_cons.mpr ⟨?_, rfl⟩
  show tri 0 - 0 = 0
  decide
theorem up_len (ns : List Int) : (up ns).length = ns.length := (up_perm ns).length_eq
theorem mxd_eq (ns : List Int) : mxd ns = ((List.range ns.length).map fun k => df (up ns) (k + 1)).foldl max 0 := by
  unfold mxd
  rw [dfs_cons]
  rfl
theorem dfs_mem {ns : List Int} {k : Nat} (h : k ≤ ns.length) : df (up ns) k ∈ dfs ns := List.mem_map.mpr ⟨k, List.mem_range.mpr (by omega), rfl⟩
theorem perm_sum {a b : List Int} (h : a.Perm b) : a.sum = b.sum := by
  induction h with
  | nil => rfl
  | cons x _ ih => rw [List.sum_cons, List.sum_cons, ih]
  | swap x y l => simp only [List.sum_cons]; omega
  | trans _ _ h1 h2 => rw [h1, h2]
theorem subs_lt : ∀ (m : Nat) (ps : List Nat), ps ∈ subs m → (∀ p ∈ ps, p < m) ∧ ps.length ≤ m
  | 0, ps, h => by
    have : ps = [] := by simpa [subs] using h
    subst this
    exact ⟨fun p hp => (nomatch hp), Nat.le_refl _⟩
  | m + 1, ps, h => by
    rcases List.mem_append.mp h with h | h
    · obtain ⟨a, b⟩ := subs_lt m ps h
      exact ⟨fun p hp => Nat.lt_succ_of_lt (a p hp), Nat.le_succ_of_le b⟩
    · obtain ⟨qs, hq, rfl⟩ := List.mem_map.mp h
      obtain ⟨a, b⟩ := subs_lt m qs hq
      refine ⟨fun p hp => ?_, by rw [List.length_append]; exact Nat.succ_le_succ b⟩
      rcases List.mem_append.mp hp with hp | hp
      · exact Nat.lt_succ_of_lt (a p hp)
      · have : p = m := by simpa using hp
        omega
theorem tri_even (k : Int) : 2 * tri k = k * (k - 1) := by
  unfold tri
  have h : k * (k - 1) % 2 = 0 := by
    rcases (show k % 2 = 0 ∨ k % 2 = 1 by omega) with h | h
    · rw [Int.mul_emod, h]
      simp
    · have : (k - 1) % 2 = 0 := by omega
      rw [Int.mul_emod, this]
      simp
  omega
end Ts

namespace Ts
open PySem PySem.Spec PyProof.Rows L2 LamX Pd
theorem log_lt {n : Int} (h0 : 0 < n) (h : n < 2 ^ 200) : n.natAbs.log2 < 9000 := by
  have h1 : n.natAbs < 2 ^ 200 := by
    have : (n.natAbs : Int) = n := Int.natAbs_of_nonneg (by omega)
    omega
  exact Nat.lt_of_lt_of_le (PySem.Flt.log2_lt_of (by decide) h1) (by decide)
theorem bok0 {g : Int} (h : bokB 0 g) : 0 ≤ g ∧ g < 2 ^ 4000 := ⟨h.1, by
  rcases h.2 with b | b | b
  · exact b.2
  · exact absurd b.1 (by decide)
  · exact absurd b (by decide)⟩
theorem pure_L_cast (ds : List D) (Q : D → Prop) (Ex : Xc → Prop) (h : F_L_cast ds Q Ex) : w_L_cast (dEnds Q Ex) (startE N_L_cast ds) := by
  obtain ⟨p, n, rfl, n0, n1, q⟩ := h
  have lg := log_lt n0 n1
  refine ⟨by decide, by decide, fun g hg => br_if (fun hp => ?_) (fun hp => ?_)⟩
  · refine ⟨by decide, by decide, fun g1 hg1 => ⟨n0, ?_⟩⟩
    refine ⟨by decide, by decide, fun g2 hg2 => ⟨⟨n0, lg⟩, by decide, by decide, ?_, ?_⟩⟩
    · obtain ⟨a, b⟩ := bok0 hg2
      exact ⟨Int.ediv_nonneg a (Int.le_of_lt n0), .inl ⟨rfl, Int.lt_of_le_of_lt (Int.ediv_le_self _ a) b⟩⟩
    · exact q _ (Int.emod_nonneg _ (by omega)) (Int.emod_lt_of_pos _ n0)
  · refine ⟨by decide, by decide, fun c hc => ⟨by decide, by decide, ⟨by have := hc.1; omega, .inr (.inr rfl)⟩, ?_⟩⟩
    refine ⟨by decide, by decide, fun s1 hs1 => ⟨by decide, by decide, fun c1 hc1 => ⟨.inl (.inl (by decide)), by decide, ?_⟩⟩⟩
    have sm : ∀ z : Int, (z % 2305843009213693867).natAbs < 2 ^ 64 := fun z => by omega
    refine ⟨.inl (.inl (sm _)), by decide, ⟨.inl (.inr (sm _)), ⟨by decide, by decide, fun c2 hc2 => ⟨.inl (.inl (by decide)), ?_⟩⟩⟩⟩
    refine ⟨by decide, by decide, fun s2 hs2 => ⟨by decide, ⟨by decide, by decide⟩, n0, ?_⟩⟩
    exact q _ (Int.emod_nonneg _ (by omega)) (Int.emod_lt_of_pos _ n0)
theorem len_L_cast (ds : List D) (Q : D → Prop) (Ex : Xc → Prop) (h : F_L_cast ds Q Ex) : ds.length = 2 := by
  obtain ⟨p, n, rfl, _⟩ := h
  rfl
theorem atI_nat {α : Type} {xs : List α} {r : Int} {x : α} (h0 : 0 ≤ r) (h : xs[r.toNat]? = some x) : atI xs r = some x := by
  have hl := (List.getElem?_eq_some_iff.mp h).1
  unfold atI ixN
  rw [if_pos h0, if_pos (by omega)]
  exact h
theorem idx_items {x : D} {xs : List D} {r : Int} {y : D} (hx : dItems x = some xs) (h0 : 0 ≤ r) (h : xs[r.toNat]? = some y) : dIdx x (.int r) = some y := by
  cases x with
  | lst ys =>
    cases hx
    exact atI_nat h0 h
  | tup ys =>
    cases hx
    exact atI_nat h0 h
  | _ => cases hx
theorem items_or {x : D} {xs : List D} (hx : dItems x = some xs) : x = .lst xs ∨ x = .tup xs := by
  cases x with
  | lst ys =>
    cases hx
    exact .inl rfl
  | tup ys =>
    cases hx
    exact .inr rfl
  | _ => cases hx


theorem scr_at {ns : List Int} {i : Int} (h0 : 0 ≤ i) (h : i < ns.length) : ∃ n, dIdx (.scr ns) (.int i) = some (.int n) := by
  have hr : i.toNat < ns.length := by omega
  refine ⟨ns[i.toNat], ?_⟩
  show (atI ns i).map D.int = _
  rw [atI_nat h0 (List.getElem?_eq_getElem hr)]
  rfl
theorem box_ok {g m : Int} (h0 : 0 < m) (h : m ≤ 2 ^ 4000) (c : Int) (hc : 0 ≤ c) : 0 ≤ (if g % m - c > 0 then g % m - c else 0) ∧ (if g % m - c > 0 then g % m - c else 0) < 2 ^ 4000 := by
  have a := Int.emod_nonneg g (show m ≠ 0 by omega)
  have b := Int.emod_lt_of_pos g h0
  have p : (0 : Int) < 2 ^ 4000 := by decide
  split
  · omega
  · exact ⟨Int.le_refl _, p⟩
theorem pure_L_numbers (ds : List D) (Q : D → Prop) (Ex : Xc → Prop) (h : F_L_numbers ds Q Ex) : w_L_numbers (dEnds Q Ex) (startE N_L_numbers ds) := by
  obtain ⟨ns, i, rfl, i0, i1, hl, q⟩ := h
  refine br_if (fun h1 => ?_) (fun h1 => ?_)
  · obtain ⟨n, e⟩ := scr_at i0 h1
    refine ⟨_, e, ?_⟩
    refine ⟨by decide, by decide, by decide, ?_⟩
    refine ⟨.inl (.inr (by decide)), .inl (.inl (by decide)), .inl (.inl (by decide)), ?_⟩
    refine ⟨by decide, by decide, Nat.le_of_ble_eq_true rfl, ?_, q⟩
    obtain ⟨a, b⟩ := box_ok (g := if n < 0 then -n else n) (m := (10 ^ Int.toNat 61) ^ Int.toNat 9) (by decide) (by decide) (10 ^ Int.toNat 18) (by decide)
    exact ⟨a, b, Int.emod_nonneg _ (by decide), Int.lt_trans (Int.emod_lt_of_pos _ (by decide)) (by decide), by decide⟩
  · refine ⟨.inl (.inl (by decide)), ?_⟩
    refine ⟨by decide, by decide, by decide, ?_⟩
    refine ⟨.inl (.inr (by decide)), .inl (.inl (by decide)), .inl (.inl (by decide)), ?_⟩
    refine ⟨by decide, by decide, Nat.le_of_ble_eq_true rfl, ?_, q⟩
    obtain ⟨a, b⟩ := box_ok (g := if 71 * i + 43 < 0 then -(71 * i + 43) else 71 * i + 43) (m := (10 ^ Int.toNat 61) ^ Int.toNat 9) (by decide) (by decide) (10 ^ Int.toNat 18) (by decide)
    exact ⟨a, b, Int.emod_nonneg _ (by decide), Int.lt_trans (Int.emod_lt_of_pos _ (by decide)) (by decide), by decide⟩
theorem len_L_numbers (ds : List D) (Q : D → Prop) (Ex : Xc → Prop) (h : F_L_numbers ds Q Ex) : ds.length = 2 := by
  obtain ⟨ns, i, rfl, _⟩ := h
  rfl
theorem pure_is_integer (ds : List D) (Q : D → Prop) (Ex : Xc → Prop) (h : F_is_integer ds Q Ex) : w_is_integer (dEnds Q Ex) (startE N_is_integer ds) := Pd.pure_is_integer ds Q Ex h
theorem len_is_integer (ds : List D) (Q : D → Prop) (Ex : Xc → Prop) (h : F_is_integer ds Q Ex) : ds.length = 1 := by
  obtain ⟨x, rfl, _⟩ := h
  rfl
theorem pure_is_from (ds : List D) (Q : D → Prop) (Ex : Xc → Prop) (h : F_is_from ds Q Ex) : w_is_from (dEnds Q Ex) (startE N_is_from ds) := Pd.pure_is_from ds Q Ex h
theorem len_is_from (ds : List D) (Q : D → Prop) (Ex : Xc → Prop) (h : F_is_from ds Q Ex) : ds.length = 3 := by
  obtain ⟨x, a, b, rfl, _⟩ := h
  rfl
end Ts

namespace Ts
open PySem PySem.Spec PyProof.Rows L2 LamX Pd









theorem idx_ti {ns : List Int} {p : Nat} (h : p < ns.length) : dIdx (Ti ns) (.int (Int.ofNat p)) = some (.int (gtv ns p)) := by
  refine idx_items (x := Ti ns) rfl (Int.natCast_nonneg p) ?_
  show (ns.map D.int)[p]? = _
  rw [List.getElem?_map, List.getElem?_eq_getElem h]
  unfold gtv
  rw [List.getD_eq_getElem?_getD, List.getElem?_eq_getElem h]
  rfl


end Ts

namespace Ts
open PySem PySem.Spec PyProof.Rows L2 LamX Pd
def prs : Nat → List Int → List (Int × Nat)
  | _, [] => []
  | k, n :: ns => (n, k) :: prs (k + 1) ns
theorem upTo0 (n : Nat) : Pd.upTo 0 n = (List.range n).map fun k => D.int (Int.ofNat k) := by
  unfold Pd.upTo
  have : ((n : Int) - 0).toNat = n := by omega
  rw [this]
  exact List.map_congr_left fun k _ => by rw [Int.zero_add]; rfl
end Ts

namespace Ts
open PySem PySem.Spec PyProof.Rows L2 LamX Pd
theorem upTo_in {k m : Int} {x : D} {rest : List D} (h : x :: rest = upTo k m) : k < m ∧ x = .int k ∧ rest = upTo (k + 1) m := by
  by_cases hk : k < m
  · rw [upTo_cons hk] at h
    obtain ⟨rfl, rfl⟩ := List.cons_eq_cons.mp h
    exact ⟨hk, rfl, rfl⟩
  · rw [upTo_nil (by omega)] at h
    cases h
theorem upTo_out {k m : Int} (h : ([] : List D) = upTo k m) : m ≤ k := by
  by_cases hk : k < m
  · rw [upTo_cons hk] at h
    cases h
  · omega
end Ts

namespace Qh
structure Gr (n : Nat) (a : Nat → Nat → Bool) (d : Nat → Nat) : Prop where
  sym : ∀ i j, a i j = a j i
  irr : ∀ i, a i i = false
  deg : ∀ i, i < n → d i = (List.range n).countP (a i)
theorem count_swap {l : List Nat} (nd : l.Nodup) {f g : Nat → Bool} {u v : Nat} (hu : u ∈ l) (hv : v ∈ l) (ne : u ≠ v) (fu : f u = false) (fv : f v = true) (gu : g u = true) (gv : g v = false) (he : ∀ z, z ≠ u → z ≠ v → g z = f z) : l.countP g = l.countP f := by
  have hv' : v ∈ l.erase u := (List.mem_erase_of_ne ne.symm).mpr hv
  have p := (List.perm_cons_erase hu).trans ((List.perm_cons_erase hv').cons u)
  have nd' := p.nodup_iff.mp nd
  obtain ⟨n1, n2⟩ := List.nodup_cons.mp nd'
  obtain ⟨n3, _⟩ := List.nodup_cons.mp n2
  rw [p.countP_eq, p.countP_eq]
  simp only [List.countP_cons, fu, fv, gu, gv]
  have : ((l.erase u).erase v).countP g = ((l.erase u).erase v).countP f := by
    refine List.countP_congr fun z hz => ?_
    rw [he z (fun e => n1 (by subst e; exact List.mem_cons_of_mem _ hz)) (fun e => n3 (by subst e; exact hz))]
  simp [this]
theorem count_off {l : List Nat} (nd : l.Nodup) {f g : Nat → Bool} {u : Nat} (hu : u ∈ l) (fu : f u = true) (gu : g u = false) (he : ∀ z, z ≠ u → g z = f z) : l.countP f = l.countP g + 1 := by
  have p := List.perm_cons_erase hu
  obtain ⟨n1, _⟩ := List.nodup_cons.mp (p.nodup_iff.mp nd)
  rw [p.countP_eq, p.countP_eq]
  simp only [List.countP_cons, fu, gu]
  have : (l.erase u).countP g = (l.erase u).countP f := by
    refine List.countP_congr fun z hz => ?_
    rw [he z (fun e => n1 (by subst e; exact hz))]
  simp [this]
theorem count_le {f g : Nat → Bool} : ∀ {l : List Nat}, (∀ z ∈ l, f z = true → g z = true) → l.countP f ≤ l.countP g := fun h => List.countP_mono_left h
def e2 (u v i j : Nat) : Bool := (i == u && j == v) || (i == v && j == u)
theorem e2_sym (u v i j : Nat) : e2 u v i j = e2 u v j i := by
  unfold e2
  rw [Bool.and_comm (i == u), Bool.and_comm (i == v), Bool.or_comm]
def swp (a : Nat → Nat → Bool) (p x y z : Nat) (i j : Nat) : Bool := if e2 p x i j || e2 y z i j then true else if e2 p y i j || e2 x z i j then false else a i j
theorem gr_swap {n : Nat} {a : Nat → Nat → Bool} {d : Nat → Nat} (G : Gr n a d) {p x y z : Nat} (hp : p < n) (hx : x < n) (hy : y < n) (hz : z < n) (px : p ≠ x) (py : p ≠ y) (pz : p ≠ z) (xy : x ≠ y) (xz : x ≠ z) (yz : y ≠ z)
    (apx : a p x = false) (apy : a p y = true) (axz : a x z = true) (ayz : a y z = false) : Gr n (swp a p x y z) d := by
  have m : ∀ {i}, i < n → i ∈ List.range n := List.mem_range.mpr
  have nd := List.nodup_range (n := n)
  have apx' : a x p = false := (G.sym x p).trans apx
  have apy' : a y p = true := (G.sym y p).trans apy
  have axz' : a z x = true := (G.sym z x).trans axz
  have ayz' : a z y = false := (G.sym z y).trans ayz
  refine ⟨fun i j => ?_, fun i => ?_, fun i hi => ?_⟩
  · unfold swp
    rw [e2_sym p x, e2_sym y z, e2_sym p y, e2_sym x z, G.sym i j]
  · unfold swp e2
    have := G.irr i
    split
    · rename_i h
      simp at h
      omega
    · split
      · rfl
      · exact this
  · rw [G.deg i hi]
    symm
    by_cases ip : i = p
    · subst ip
      refine count_swap nd (u := x) (v := y) (m hx) (m hy) xy apx apy ?_ ?_ fun w w1 w2 => ?_
      all_goals simp [swp, e2, *, Ne.symm px, Ne.symm py, Ne.symm pz, Ne.symm xy, Ne.symm xz, Ne.symm yz]
    by_cases ix : i = x
    · subst ix
      refine count_swap nd (u := p) (v := z) (m hp) (m hz) pz apx' axz ?_ ?_ fun w w1 w2 => ?_
      all_goals simp [swp, e2, *, Ne.symm px, Ne.symm py, Ne.symm pz, Ne.symm xy, Ne.symm xz, Ne.symm yz]
    by_cases iy : i = y
    · subst iy
      refine count_swap nd (u := z) (v := p) (m hz) (m hp) pz.symm ayz apy' ?_ ?_ fun w w1 w2 => ?_
      all_goals simp [swp, e2, *, Ne.symm px, Ne.symm py, Ne.symm pz, Ne.symm xy, Ne.symm xz, Ne.symm yz]
    by_cases iz : i = z
    · subst iz
      refine count_swap nd (u := y) (v := x) (m hy) (m hx) xy.symm ayz' axz' ?_ ?_ fun w w1 w2 => ?_
      all_goals simp [swp, e2, *, Ne.symm px, Ne.symm py, Ne.symm pz, Ne.symm xy, Ne.symm xz, Ne.symm yz]
    refine List.countP_congr fun w _ => ?_
    simp [swp, e2, ip, ix, iy, iz]
theorem hh {n : Nat} {d : Nat → Nat} {p : Nat} (hp : p < n) {L : List Nat} (hL : L.Perm ((List.range n).filter fun x => x != p)) (mono : L.Pairwise fun x y => d y ≤ d x) :
    ∀ (m : Nat) (a : Nat → Nat → Bool), Gr n a d → ((L.take (d p)).filter fun x => !a p x).length ≤ m → ∃ a', Gr n a' d ∧ ∀ z, z < n → (a' p z = true ↔ z ∈ L.take (d p)) := by
  have ndL : L.Nodup := hL.nodup_iff.mpr (List.nodup_range.sublist List.filter_sublist)
  have memL : ∀ z, z ∈ L ↔ z < n ∧ z ≠ p := fun z => by
    rw [hL.mem_iff, List.mem_filter, List.mem_range]
    simp
  have lp : (List.range n).Perm (p :: L) := by
    have q : (List.range n).Perm (p :: (List.range n).erase p) := List.perm_cons_erase (List.mem_range.mpr hp)
    rw [List.nodup_range.erase_eq_filter] at q
    exact q.trans (hL.symm.cons p)
  have cnt : ∀ {a}, Gr n a d → d p = (L.take (d p)).countP (a p) + (L.drop (d p)).countP (a p) := fun {a} G => by
    have := G.deg p hp
    rw [lp.countP_eq, List.countP_cons, G.irr p] at this
    rw [← List.countP_append, List.take_append_drop]
    simpa using this
  have lenT : ∀ {a}, Gr n a d → (L.take (d p)).length = d p := fun {a} G => by
    have h1 := cnt G
    have h2 := List.countP_le_length (p := a p) (l := L.take (d p))
    have h3 := List.countP_le_length (p := a p) (l := L.drop (d p))
    rw [List.length_take] at h2 ⊢
    rw [List.length_drop] at h3
    omega
  intro m
  induction m with
  | zero =>
    intro a G hm
    have e0 : ((L.take (d p)).filter fun x => !a p x) = [] := List.eq_nil_of_length_eq_zero (Nat.le_zero.mp hm)
    have all1 : ∀ x ∈ L.take (d p), a p x = true := fun x hx => by
      have := List.filter_eq_nil_iff.mp e0 x hx
      simpa using this
    have c1 : (L.take (d p)).countP (a p) = (L.take (d p)).length := List.countP_eq_length.mpr all1
    have c2 := cnt G
    rw [c1, lenT G] at c2
    have c3 : (L.drop (d p)).countP (a p) = 0 := by omega
    refine ⟨a, G, fun z hz => ⟨fun h => ?_, all1 z⟩⟩
    have zp : z ≠ p := fun e => by
      rw [e, G.irr p] at h
      cases h
    have := (memL z).mpr ⟨hz, zp⟩
    rw [← List.take_append_drop (d p) L] at this
    rcases List.mem_append.mp this with q | q
    · exact q
    · exact absurd h (by simpa using List.countP_eq_zero.mp c3 z q)
  | succ m ih =>
    intro a G hm
    by_cases e0 : ((L.take (d p)).filter fun x => !a p x) = []
    · exact ih a G (by rw [e0]; exact Nat.zero_le _)
    obtain ⟨x, hx⟩ := List.exists_mem_of_ne_nil _ e0
    obtain ⟨xT, apx⟩ := List.mem_filter.mp hx
    have apx : a p x = false := by simpa using apx
    obtain ⟨xn, xp⟩ := (memL x).mp (List.mem_of_mem_take xT)
    -- a tie of p outside
    have : ∃ y ∈ L.drop (d p), a p y = true := by
      apply Classical.byContradiction
      intro h
      have c3 : (L.drop (d p)).countP (a p) = 0 := List.countP_eq_zero.mpr fun y hy => by
        intro q
        exact h ⟨y, hy, q⟩
      have c2 := cnt G
      have c4 : (L.take (d p)).countP (a p) < (L.take (d p)).length := by
        refine Nat.lt_of_le_of_ne List.countP_le_length fun q => ?_
        have := List.countP_eq_length.mp q x xT
        rw [apx] at this
        cases this
      rw [lenT G] at c4
      omega
    obtain ⟨y, yD, apy⟩ := this
    obtain ⟨yn, yp⟩ := (memL y).mp (List.mem_of_mem_drop yD)
    have nd2 : (L.take (d p) ++ L.drop (d p)).Nodup := by
      rw [List.take_append_drop]
      exact ndL
    have yT : y ∉ L.take (d p) := fun q => (List.nodup_append.mp nd2).2.2 y q y yD rfl
    have xy : x ≠ y := fun e => yT (e ▸ xT)
    have dyx : d y ≤ d x := by
      have q := mono
      rw [← List.take_append_drop (d p) L] at q
      exact (List.pairwise_append.mp q).2.2 x xT y yD
    -- one that is tied to x and not to y
    have : ∃ z, z < n ∧ a x z = true ∧ z ≠ y ∧ a y z = false := by
      apply Classical.byContradiction
      intro h
      have hc : ∀ z ∈ List.range n, (a x z && z != y) = true → (a y z && z != x && z != p) = true := fun z hz q => by
        have q1 : a x z = true ∧ z ≠ y := by simpa using q
        have q2 : a y z = true := by
          cases r : a y z with
          | true => rfl
          | false => exact absurd ⟨z, List.mem_range.mp hz, q1.1, q1.2, r⟩ h
        have q3 : z ≠ x := fun e => by
          rw [e, G.irr x] at q1
          cases q1.1
        have q4 : z ≠ p := fun e => by
          rw [e, G.sym x p, apx] at q1
          cases q1.1
        simp [q2, q3, q4]
      have c0 := count_le hc
      have c1 : (List.range n).countP (fun z => a y z && z != x) = (List.range n).countP (fun z => a y z && z != x && z != p) + 1 := by
        refine count_off List.nodup_range (u := p) (List.mem_range.mpr hp) ?_ ?_ fun z hz => ?_
        · simp [G.sym y p, apy, Ne.symm xp]
        · simp
        · simp [hz]
      have dx := G.deg x xn
      have dy := G.deg y yn
      cases axy : a x y with
      | false =>
        have r1 : (List.range n).countP (fun z => a x z && z != y) = d x := by
          rw [dx]
          refine List.countP_congr fun z _ => ?_
          by_cases e : z = y
          · simp [e, axy]
          · simp [e]
        have r2 : (List.range n).countP (fun z => a y z && z != x) = d y := by
          rw [dy]
          refine List.countP_congr fun z _ => ?_
          by_cases e : z = x
          · simp [e, G.sym y x, axy]
          · simp [e]
        omega
      | true =>
        have r1 : d x = (List.range n).countP (fun z => a x z && z != y) + 1 := by
          rw [dx]
          refine count_off List.nodup_range (u := y) (List.mem_range.mpr yn) axy (by simp) fun z hz => ?_
          simp [hz]
        have r2 : d y = (List.range n).countP (fun z => a y z && z != x) + 1 := by
          rw [dy]
          refine count_off List.nodup_range (u := x) (List.mem_range.mpr xn) ((G.sym y x).trans axy) (by simp) fun z hz => ?_
          simp [hz]
        omega
    obtain ⟨z, zn, axz, zy, ayz⟩ := this
    have xz : x ≠ z := fun e => by
      rw [← e, G.irr x] at axz
      cases axz
    have pz : p ≠ z := fun e => by
      rw [← e, G.sym x p, apx] at axz
      cases axz
    have G2 := gr_swap G hp xn yn zn (Ne.symm xp) (Ne.symm yp) pz xy xz (Ne.symm zy) apx apy axz ayz
    refine ih _ G2 ?_
    have : ((L.take (d p)).filter fun q => !swp a p x y z p q) = ((L.take (d p)).filter fun q => !a p q).filter fun q => q != x := by
      rw [List.filter_filter]
      refine List.filter_congr fun q hq => ?_
      have qy : q ≠ y := fun e => yT (e ▸ hq)
      have qp : q ≠ p := ((memL q).mp (List.mem_of_mem_take hq)).2
      by_cases qx : q = x
      · simp [swp, e2, qx]
      · simp [swp, e2, qx, qy, qp, Ne.symm yp, pz, Ne.symm xp]
    rw [this]
    have lt : (((L.take (d p)).filter fun q => !a p q).filter fun q => q != x).length < ((L.take (d p)).filter fun q => !a p q).length := by
      refine Nat.lt_of_le_of_ne (List.length_filter_le _ _) fun q => ?_
      have := List.length_filter_eq_length_iff.mp q x hx
      simp at this
    omega
def wo (d : Nat → Nat) (p : Nat) (some : List Nat) (i : Nat) : Nat := if i = p then 0 else if i ∈ some then d i - 1 else d i
theorem hh_left {n : Nat} {a : Nat → Nat → Bool} {d : Nat → Nat} {p : Nat} (G : Gr n a d) (hp : p < n) {L : List Nat} (hL : L.Perm ((List.range n).filter fun x => x != p)) (mono : L.Pairwise fun x y => d y ≤ d x) :
    (∃ a', Gr n a' (wo d p (L.take (d p)))) ∧ (∀ x ∈ L.take (d p), 1 ≤ d x) ∧ (L.take (d p)).length = d p := by
  obtain ⟨b, B, hb⟩ := hh hp hL mono _ a G (Nat.le_refl _)
  have memL : ∀ z, z ∈ L ↔ z < n ∧ z ≠ p := fun z => by
    rw [hL.mem_iff, List.mem_filter, List.mem_range]
    simp
  have m : ∀ {i}, i < n → i ∈ List.range n := List.mem_range.mpr
  have off : ∀ i, i < n → i ≠ p → b i p = true → (List.range n).countP (b i) = (List.range n).countP (fun j => b i j && i != p && j != p) + 1 := fun i hi ip h => by
    refine count_off List.nodup_range (u := p) (m hp) h (by simp) fun z hz => ?_
    have h1 : (i != p) = true := by simpa using ip
    have h2 : (z != p) = true := by simpa using hz
    rw [h1, h2, Bool.and_true, Bool.and_true]
  have same : ∀ i, i < n → i ≠ p → b i p = false → (List.range n).countP (b i) = (List.range n).countP (fun j => b i j && i != p && j != p) := fun i hi ip h => by
    refine List.countP_congr fun z _ => ?_
    by_cases e : z = p
    · rw [e, h]
      rfl
    · simp [e, ip]
  refine ⟨⟨fun i j => b i j && i != p && j != p, fun i j => ?_, fun i => by simp [B.irr i], fun i hi => ?_⟩, fun x hx => ?_, ?_⟩
  · rw [B.sym i j, Bool.and_right_comm]
  · unfold wo
    by_cases ip : i = p
    · rw [if_pos ip, eq_comm, List.countP_eq_zero]
      intro z _
      simp [ip]
    rw [if_neg ip]
    cases h : b p i with
    | true =>
      rw [if_pos ((hb i hi).mp h), B.deg i hi, off i hi ip ((B.sym i p).trans h)]
      rfl
    | false =>
      rw [if_neg (fun q => by rw [(hb i hi).mpr q] at h; cases h), B.deg i hi, same i hi ip ((B.sym i p).trans h)]
  · obtain ⟨xn, xp⟩ := (memL x).mp (List.mem_of_mem_take hx)
    have := off x xn xp ((B.sym x p).trans ((hb x xn).mpr hx))
    rw [← B.deg x xn] at this
    omega
  · have h1 := B.deg p hp
    have h2 : (List.range n).countP (b p) ≤ L.length := by
      have q : (List.range n).countP (b p) ≤ (List.range n).countP fun x => x != p := count_le fun z _ hz => by
        have : z ≠ p := fun e => by
          rw [e, B.irr p] at hz
          cases hz
        simpa using this
      rw [List.countP_eq_length_filter (p := fun x => x != p), ← hL.length_eq] at q
      exact q
    rw [List.length_take]
    omega
theorem count_two (a : Nat → Nat → Bool) : ∀ (S R : List Nat), (S.map fun i => R.countP (a i)).sum = (R.map fun j => S.countP fun i => a i j).sum
  | [], R => by
    induction R with
    | nil => rfl
    | cons r R ih => simpa using ih
  | s :: S, R => by
    rw [List.map_cons, List.sum_cons, count_two a S R]
    induction R with
    | nil => rfl
    | cons r R ih =>
      simp only [List.map_cons, List.sum_cons, List.countP_cons] at ih ⊢
      omega
theorem sum_mono {f g : Nat → Nat} : ∀ {l : List Nat}, (∀ x ∈ l, f x ≤ g x) → (l.map f).sum ≤ (l.map g).sum
  | [], _ => Nat.le_refl _
  | x :: l, h => by
    rw [List.map_cons, List.map_cons, List.sum_cons, List.sum_cons]
    exact Nat.add_le_add (h x List.mem_cons_self) (sum_mono fun y hy => h y (List.mem_cons_of_mem _ hy))
theorem sum_const (c : Nat) : ∀ (l : List Nat), (l.map fun _ => c).sum = l.length * c
  | [] => by simp
  | x :: l => by rw [List.map_cons, List.sum_cons, sum_const c l, List.length_cons, Nat.succ_mul, Nat.add_comm]
theorem sum_add2 {f g : Nat → Nat} : ∀ (l : List Nat), (l.map fun x => f x + g x).sum = (l.map f).sum + (l.map g).sum
  | [] => rfl
  | x :: l => by
    rw [List.map_cons, List.map_cons, List.map_cons, List.sum_cons, List.sum_cons, List.sum_cons, sum_add2 l]
    omega
theorem eg {n : Nat} {a : Nat → Nat → Bool} {d : Nat → Nat} (G : Gr n a d) {S R : List Nat} (h : (S ++ R).Perm (List.range n)) : (S.map d).sum ≤ S.length * (S.length - 1) + (R.map fun j => min S.length (d j)).sum := by
  have nd : (S ++ R).Nodup := h.nodup_iff.mpr List.nodup_range
  have lt : ∀ i ∈ S ++ R, i < n := fun i hi => List.mem_range.mp (h.mem_iff.mp hi)
  have dd : ∀ i ∈ S ++ R, d i = S.countP (a i) + R.countP (a i) := fun i hi => by
    rw [G.deg i (lt i hi), ← h.countP_eq, List.countP_append]
  have e1 : (S.map d).sum = (S.map fun i => S.countP (a i)).sum + (S.map fun i => R.countP (a i)).sum := by
    rw [← sum_add2]
    refine congrArg List.sum (List.map_congr_left fun i hi => dd i (List.mem_append_left _ hi))
  have b1 : (S.map fun i => S.countP (a i)).sum ≤ S.length * (S.length - 1) := by
    rw [← sum_const]
    refine sum_mono fun i hi => ?_
    rw [(List.perm_cons_erase hi).countP_eq, List.countP_cons, G.irr i, ← List.length_erase_of_mem hi]
    simpa using List.countP_le_length
  have b2 : (S.map fun i => R.countP (a i)).sum ≤ (R.map fun j => min S.length (d j)).sum := by
    rw [count_two]
    refine sum_mono fun j hj => Nat.le_min.mpr ⟨List.countP_le_length, ?_⟩
    rw [dd j (List.mem_append_right _ hj)]
    have : (S.countP fun i => a i j) = S.countP (a j) := List.countP_congr fun i _ => by rw [G.sym i j]
    omega
  omega
def ins {α : Type} (le : α → α → Bool) (x : α) : List α → List α
  | [] => [x]
  | y :: ys => if le x y then x :: y :: ys else y :: ins le x ys
def isort {α : Type} (le : α → α → Bool) (l : List α) : List α := l.foldr (ins le) []
theorem ins_perm {α : Type} (le : α → α → Bool) (x : α) : ∀ l : List α, (ins le x l).Perm (x :: l)
  | [] => List.Perm.refl _
  | y :: ys => by
    unfold ins
    split
    · exact List.Perm.refl _
    · exact ((ins_perm le x ys).cons y).trans (List.Perm.swap x y ys)
theorem isort_perm {α : Type} (le : α → α → Bool) : ∀ l : List α, (isort le l).Perm l
  | [] => List.Perm.refl _
  | x :: l => (ins_perm le x _).trans ((isort_perm le l).cons x)
theorem ins_sorted {α : Type} {le : α → α → Bool} (tr : ∀ a b c, le a b = true → le b c = true → le a c = true) (to : ∀ a b, (le a b || le b a) = true) (x : α) : ∀ l : List α, l.Pairwise (fun a b => le a b = true) → (ins le x l).Pairwise fun a b => le a b = true
  | [], _ => List.pairwise_singleton _ _
  | y :: ys, h => by
    obtain ⟨h1, h2⟩ := List.pairwise_cons.mp h
    unfold ins
    split
    · rename_i c
      refine List.pairwise_cons.mpr ⟨fun z hz => ?_, h⟩
      rcases List.mem_cons.mp hz with rfl | hz
      · exact c
      · exact tr _ _ _ c (h1 z hz)
    · rename_i c
      refine List.pairwise_cons.mpr ⟨fun z hz => ?_, ins_sorted tr to x ys h2⟩
      rcases List.mem_cons.mp ((ins_perm le x ys).mem_iff.mp hz) with rfl | hz
      · have := to z y
        simpa [c] using this
      · exact h1 z hz
theorem isort_sorted {α : Type} {le : α → α → Bool} (tr : ∀ a b c, le a b = true → le b c = true → le a c = true) (to : ∀ a b, (le a b || le b a) = true) : ∀ l : List α, (isort le l).Pairwise fun a b => le a b = true
  | [] => List.Pairwise.nil
  | x :: l => ins_sorted tr to x _ (isort_sorted tr to l)
theorem ms_isort {α : Type} {le : α → α → Bool} (tr : ∀ a b c, le a b = true → le b c = true → le a c = true) (to : ∀ a b, (le a b || le b a) = true) (anti : ∀ a b, le a b = true → le b a = true → a = b) (l : List α) : l.mergeSort le = isort le l :=
  List.Perm.eq_of_pairwise (le := fun a b => le a b = true) (fun a b _ _ => anti a b) (List.pairwise_mergeSort tr to l) (isort_sorted tr to l) ((List.mergeSort_perm l le).trans (isort_perm le l).symm)
theorem nodup_len {l m : List Nat} (nd : l.Nodup) (h : ∀ x ∈ l, x ∈ m) : l.length ≤ m.length := by
  induction l generalizing m with
  | nil => exact Nat.zero_le _
  | cons x l ih =>
    obtain ⟨n1, n2⟩ := List.nodup_cons.mp nd
    have hx := h x List.mem_cons_self
    have := ih (m := m.erase x) n2 fun y hy => (List.mem_erase_of_ne fun e => n1 (by rw [← e]; exact hy)).mpr (h y (List.mem_cons_of_mem _ hy))
    rw [List.length_erase_of_mem hx] at this
    have p : 0 < m.length := List.length_pos_of_mem hx
    rw [List.length_cons]
    omega
def dg (dl : List Nat) (i : Nat) : Nat := dl.getD i 0
def Real (dl : List Nat) : Prop := ∃ a, Gr dl.length a (dg dl)
def le2 (dl : List Nat) (i j : Nat) : Bool := decide (dg dl j < dg dl i ∨ dg dl i = dg dl j ∧ i ≤ j)
def leN (i j : Nat) : Bool := decide (i ≤ j)
def hvo (dl : List Nat) : List Nat := isort (le2 dl) (List.range dl.length)
def ots (dl : List Nat) (p : Nat) : List Nat := (hvo dl).filter fun x => x != p
def prt (dl : List Nat) (p : Nat) : List Nat := isort leN ((ots dl p).take (dg dl p))
def rwo (dl : List Nat) (p : Nat) : List Nat := (List.range dl.length).map (wo (dg dl) p (prt dl p))
def tiesG : Nat → Nat → List Nat → List (Nat × Nat)
  | 0, _, _ => []
  | k + 1, p, dl => (prt dl p).map (fun x => (min p x, max p x)) ++ tiesG k (p + 1) (rwo dl p)
theorem le2_tr (dl : List Nat) (a b c : Nat) (h1 : le2 dl a b = true) (h2 : le2 dl b c = true) : le2 dl a c = true := by
  unfold le2 at *
  simp only [decide_eq_true_eq] at *
  omega
theorem le2_to (dl : List Nat) (a b : Nat) : (le2 dl a b || le2 dl b a) = true := by
  unfold le2
  simp only [Bool.or_eq_true, decide_eq_true_eq]
  omega
theorem hvo_perm (dl : List Nat) : (hvo dl).Perm (List.range dl.length) := isort_perm _ _
theorem hvo_falls (dl : List Nat) : (hvo dl).Pairwise fun x y => dg dl y ≤ dg dl x := by
  refine (isort_sorted (le2_tr dl) (le2_to dl) _).imp fun {a b} h => ?_
  unfold le2 at h
  simp only [decide_eq_true_eq] at h
  omega
theorem prt_mem {dl : List Nat} {p x : Nat} : x ∈ prt dl p ↔ x ∈ (ots dl p).take (dg dl p) := (isort_perm _ _).mem_iff
theorem rwo_len (dl : List Nat) (p : Nat) : (rwo dl p).length = dl.length := by
  unfold rwo
  rw [List.length_map, List.length_range]
theorem rwo_at {dl : List Nat} {p i : Nat} (hi : i < dl.length) : dg (rwo dl p) i = wo (dg dl) p (prt dl p) i := by
  unfold rwo dg
  rw [List.getD_eq_getElem?_getD, List.getElem?_map, List.getElem?_range hi]
  rfl
theorem real_rwo {dl : List Nat} {p : Nat} (r : Real dl) (hp : p < dl.length) : Real (rwo dl p) ∧ (∀ x ∈ prt dl p, 1 ≤ dg dl x ∧ x < dl.length ∧ x ≠ p) ∧ (prt dl p).length = dg dl p ∧ (prt dl p).Nodup := by
  obtain ⟨a, G⟩ := r
  have hL : (ots dl p).Perm ((List.range dl.length).filter fun x => x != p) := (hvo_perm dl).filter _
  have mono : (ots dl p).Pairwise fun x y => dg dl y ≤ dg dl x := (hvo_falls dl).sublist List.filter_sublist
  obtain ⟨⟨b, B⟩, h2, h3⟩ := hh_left G hp hL mono
  refine ⟨⟨b, B.sym, B.irr, fun i hi => ?_⟩, fun x hx => ?_, ?_, ?_⟩
  · rw [rwo_len] at hi
    have := B.deg i hi
    rw [rwo_len, ← this, rwo_at hi]
    unfold wo
    have e : (i ∈ prt dl p) = (i ∈ (ots dl p).take (dg dl p)) := propext prt_mem
    simp only [e]
  · have q := prt_mem.mp hx
    have m := hL.mem_iff.mp (List.mem_of_mem_take q)
    obtain ⟨m1, m2⟩ := List.mem_filter.mp m
    exact ⟨h2 x q, List.mem_range.mp m1, by simpa using m2⟩
  · unfold prt
    rw [(isort_perm _ _).length_eq]
    exact h3
  · refine (isort_perm _ _).nodup_iff.mpr ((List.Sublist.nodup (List.take_sublist _ _)) ?_)
    exact hL.nodup_iff.mpr (List.nodup_range.sublist List.filter_sublist)
def cnt (ps : List (Nat × Nat)) (i : Nat) : Nat := ps.countP fun q => q.1 == i || q.2 == i
def tri : Nat → Nat
  | 0 => 0
  | k + 1 => k + tri k
theorem cnt_row {p i : Nat} : ∀ {l : List Nat}, l.Nodup → (∀ x ∈ l, p < x) → cnt (l.map fun x => (p, x)) i = if i = p then l.length else if i ∈ l then 1 else 0
  | [], _, _ => by simp [cnt]
  | x :: l, nd, h => by
    obtain ⟨n1, n2⟩ := List.nodup_cons.mp nd
    have ih := cnt_row (i := i) n2 fun y hy => h y (List.mem_cons_of_mem _ hy)
    have px := h x List.mem_cons_self
    show (((p, x) :: l.map fun x => (p, x)).countP fun q => q.1 == i || q.2 == i) = _
    rw [List.countP_cons]
    unfold cnt at ih
    rw [ih]
    by_cases ip : i = p
    · subst ip
      simp
    · by_cases ix : i = x
      · subst ix
        simp [ip, n1]
      · have hx : ¬ x = i := fun e => ix e.symm
        have hp : ¬ p = i := fun e => ip e.symm
        simp [ip, ix, hx, hp]
theorem made : ∀ (k p : Nat) (dl : List Nat), Real dl → p + k = dl.length → (∀ i, i < p → dg dl i = 0) →
    (∀ q ∈ tiesG k p dl, p ≤ q.1 ∧ q.1 < q.2 ∧ q.2 < dl.length) ∧ (tiesG k p dl).Nodup ∧ (∀ i, i < dl.length → cnt (tiesG k p dl) i = dg dl i) ∧ (tiesG k p dl).length ≤ tri k
  | 0, p, dl, r, e, z => ⟨fun q hq => absurd hq List.not_mem_nil, List.nodup_nil, fun i hi => (z i (by omega)).symm, Nat.le_refl _⟩
  | k + 1, p, dl, r, e, z => by
    obtain ⟨r2, h1, h2, h3⟩ := real_rwo r (p := p) (by omega)
    have gt : ∀ x ∈ prt dl p, p < x := fun x hx => by
      obtain ⟨a, b, c⟩ := h1 x hx
      rcases Nat.lt_trichotomy x p with q | q | q
      · rw [z x q] at a
        omega
      · exact absurd q c
      · exact q
    have em : (prt dl p).map (fun x => (min p x, max p x)) = (prt dl p).map fun x => (p, x) := List.map_congr_left fun x hx => by
      have := gt x hx
      rw [Nat.min_eq_left (by omega), Nat.max_eq_right (by omega)]
    have zz : ∀ i, i < p + 1 → dg (rwo dl p) i = 0 := fun i hi => by
      rw [rwo_at (by omega)]
      unfold wo
      by_cases ip : i = p
      · rw [if_pos ip]
      · rw [if_neg ip, z i (by omega)]
        split <;> rfl
    obtain ⟨i1, i2, i3, i4⟩ := made k (p + 1) (rwo dl p) r2 (by rw [rwo_len]; omega) zz
    rw [rwo_len] at i1 i3
    unfold tiesG
    rw [em]
    refine ⟨fun q hq => ?_, ?_, fun i hi => ?_, ?_⟩
    · rcases List.mem_append.mp hq with hq | hq
      · obtain ⟨x, hx, rfl⟩ := List.mem_map.mp hq
        have := gt x hx
        have := (h1 x hx).2.1
        exact ⟨Nat.le_refl _, gt x hx, this⟩
      · have := i1 q hq
        omega
    · refine List.nodup_append.mpr ⟨?_, i2, fun a ha b hb ab => ?_⟩
      · refine List.pairwise_map.mpr (List.Pairwise.imp (fun {a b} ne q => ne ?_) h3)
        exact (Prod.mk.inj q).2
      · obtain ⟨x, hx, rfl⟩ := List.mem_map.mp ha
        have := (i1 b hb).1
        rw [← ab] at this
        exact absurd this (by show ¬ (p + 1 ≤ p); omega)
    · show (((prt dl p).map fun x => (p, x)) ++ tiesG k (p + 1) (rwo dl p)).countP (fun q => q.1 == i || q.2 == i) = _
      rw [List.countP_append]
      have c1 := cnt_row (i := i) h3 gt
      have c2 := i3 i hi
      unfold cnt at c1 c2
      rw [c1, c2, rwo_at hi]
      unfold wo
      by_cases ip : i = p
      · rw [if_pos ip, if_pos ip, h2, ip, Nat.add_zero]
      · rw [if_neg ip, if_neg ip]
        by_cases im : i ∈ prt dl p
        · have := (h1 i im).1
          rw [if_pos im, if_pos im]
          omega
        · rw [if_neg im, if_neg im]
          omega
    · rw [List.length_append, List.length_map]
      have : (prt dl p).length ≤ (List.range' (p + 1) k).length := nodup_len h3 fun x hx => by
        have a := gt x hx
        have b := (h1 x hx).2.1
        rw [List.mem_range'_1]
        omega
      rw [List.length_range'] at this
      show _ ≤ k + tri k
      omega
end Qh

namespace Qt
open Qh (count_swap count_off count_le isort isort_perm isort_sorted)
structure Tr (P : List Nat) (b : Nat → Nat → Bool) (s : Nat → Nat) : Prop where
  nd : P.Nodup
  irr : ∀ i, b i i = false
  anti : ∀ i ∈ P, ∀ j ∈ P, i ≠ j → b i j = !b j i
  deg : ∀ i ∈ P, s i = P.countP (b i)
def e1 (u v i j : Nat) : Bool := i == u && j == v
def rv3 (b : Nat → Nat → Bool) (p y x i j : Nat) : Bool := if e1 y p i j || e1 x y i j || e1 p x i j then true else if e1 p y i j || e1 y x i j || e1 x p i j then false else b i j
def rv4 (b : Nat → Nat → Bool) (p y z x i j : Nat) : Bool := if e1 y p i j || e1 z y i j || e1 x z i j || e1 p x i j then true else if e1 p y i j || e1 y z i j || e1 z x i j || e1 x p i j then false else b i j
theorem tr_ring3 {P : List Nat} {b : Nat → Nat → Bool} {s : Nat → Nat} (G : Tr P b s) {p y x : Nat} (hp : p ∈ P) (hy : y ∈ P) (hx : x ∈ P) (py : p ≠ y) (px : p ≠ x) (yx : y ≠ x) (b1 : b p y = true) (b2 : b y x = true) (b3 : b x p = true) : Tr P (rv3 b p y x) s := by
  have c1 : b y p = false := by rw [G.anti y hy p hp py.symm, b1]; rfl
  have c2 : b x y = false := by rw [G.anti x hx y hy yx.symm, b2]; rfl
  have c3 : b p x = false := by rw [G.anti p hp x hx px, b3]; rfl
  refine ⟨G.nd, fun i => ?_, fun i hi j hj ij => ?_, fun i hi => ?_⟩
  · unfold rv3 e1
    have := G.irr i
    split
    · rename_i h
      simp at h
      omega
    · split
      · rfl
      · exact this
  · have := G.anti i hi j hj ij
    unfold rv3 e1
    by_cases h1 : i = p <;> by_cases h2 : i = y <;> by_cases h3 : i = x <;> by_cases k1 : j = p <;> by_cases k2 : j = y <;> by_cases k3 : j = x <;> simp_all
  · rw [G.deg i hi]
    symm
    by_cases ip : i = p
    · subst ip
      refine count_swap G.nd (u := x) (v := y) hx hy yx.symm c3 b1 ?_ ?_ fun w w1 w2 => ?_
      all_goals simp [rv3, e1, *, Ne.symm py, Ne.symm px, Ne.symm yx]
    by_cases iy : i = y
    · subst iy
      refine count_swap G.nd (u := p) (v := x) hp hx px c1 b2 ?_ ?_ fun w w1 w2 => ?_
      all_goals simp [rv3, e1, *, Ne.symm py, Ne.symm px, Ne.symm yx]
    by_cases ix : i = x
    · subst ix
      refine count_swap G.nd (u := y) (v := p) hy hp py.symm c2 b3 ?_ ?_ fun w w1 w2 => ?_
      all_goals simp [rv3, e1, *, Ne.symm py, Ne.symm px, Ne.symm yx]
    refine List.countP_congr fun w _ => ?_
    simp [rv3, e1, ip, iy, ix]
theorem tr_ring4 {P : List Nat} {b : Nat → Nat → Bool} {s : Nat → Nat} (G : Tr P b s) {p y z x : Nat} (hp : p ∈ P) (hy : y ∈ P) (hz : z ∈ P) (hx : x ∈ P) (py : p ≠ y) (pz : p ≠ z) (px : p ≠ x) (yz : y ≠ z) (yx : y ≠ x) (zx : z ≠ x)
    (b1 : b p y = true) (b2 : b y z = true) (b3 : b z x = true) (b4 : b x p = true) : Tr P (rv4 b p y z x) s := by
  have c1 : b y p = false := by rw [G.anti y hy p hp py.symm, b1]; rfl
  have c2 : b z y = false := by rw [G.anti z hz y hy yz.symm, b2]; rfl
  have c3 : b x z = false := by rw [G.anti x hx z hz zx.symm, b3]; rfl
  have c4 : b p x = false := by rw [G.anti p hp x hx px, b4]; rfl
  refine ⟨G.nd, fun i => ?_, fun i hi j hj ij => ?_, fun i hi => ?_⟩
  · unfold rv4 e1
    have := G.irr i
    split
    · rename_i h
      simp at h
      omega
    · split
      · rfl
      · exact this
  · have := G.anti i hi j hj ij
    have key : ∀ u v u' v' : Nat, (i = u ∧ j = v) → ¬ (i = u' ∧ j = v') ∨ (u = u' ∧ v = v') := fun u v u' v' h => by omega
    unfold rv4 e1
    by_cases a1 : i = y ∧ j = p
    · obtain ⟨rfl, rfl⟩ := a1
      simp [Ne.symm py, Ne.symm pz, Ne.symm px, Ne.symm yz, Ne.symm yx, Ne.symm zx, *]
    by_cases a2 : i = z ∧ j = y
    · obtain ⟨rfl, rfl⟩ := a2
      simp [Ne.symm py, Ne.symm pz, Ne.symm px, Ne.symm yz, Ne.symm yx, Ne.symm zx, *]
    by_cases a3 : i = x ∧ j = z
    · obtain ⟨rfl, rfl⟩ := a3
      simp [Ne.symm py, Ne.symm pz, Ne.symm px, Ne.symm yz, Ne.symm yx, Ne.symm zx, *]
    by_cases a4 : i = p ∧ j = x
    · obtain ⟨rfl, rfl⟩ := a4
      simp [Ne.symm py, Ne.symm pz, Ne.symm px, Ne.symm yz, Ne.symm yx, Ne.symm zx, *]
    by_cases d1 : i = p ∧ j = y
    · obtain ⟨rfl, rfl⟩ := d1
      simp [Ne.symm py, Ne.symm pz, Ne.symm px, Ne.symm yz, Ne.symm yx, Ne.symm zx, *]
    by_cases d2 : i = y ∧ j = z
    · obtain ⟨rfl, rfl⟩ := d2
      simp [Ne.symm py, Ne.symm pz, Ne.symm px, Ne.symm yz, Ne.symm yx, Ne.symm zx, *]
    by_cases d3 : i = z ∧ j = x
    · obtain ⟨rfl, rfl⟩ := d3
      simp [Ne.symm py, Ne.symm pz, Ne.symm px, Ne.symm yz, Ne.symm yx, Ne.symm zx, *]
    by_cases d4 : i = x ∧ j = p
    · obtain ⟨rfl, rfl⟩ := d4
      simp [Ne.symm py, Ne.symm pz, Ne.symm px, Ne.symm yz, Ne.symm yx, Ne.symm zx, *]
    have f : ∀ u v : Nat, ¬ (i = u ∧ j = v) → (i == u && j == v) = false := fun u v h => by
      rw [Bool.eq_false_iff]
      intro z
      simp at z
      exact h z
    have g : ∀ u v : Nat, ¬ (i = v ∧ j = u) → (j == u && i == v) = false := fun u v h => by
      rw [Bool.eq_false_iff]
      intro z
      simp at z
      exact h ⟨z.2, z.1⟩
    rw [f _ _ a1, f _ _ a2, f _ _ a3, f _ _ a4, f _ _ d1, f _ _ d2, f _ _ d3, f _ _ d4, g _ _ a1, g _ _ a2, g _ _ a3, g _ _ a4, g _ _ d1, g _ _ d2, g _ _ d3, g _ _ d4]
    exact this
  · rw [G.deg i hi]
    symm
    by_cases ip : i = p
    · subst ip
      refine count_swap G.nd (u := x) (v := y) hx hy yx.symm c4 b1 ?_ ?_ fun w w1 w2 => ?_
      all_goals simp [rv4, e1, *, Ne.symm py, Ne.symm pz, Ne.symm px, Ne.symm yz, Ne.symm yx, Ne.symm zx]
    by_cases iy : i = y
    · subst iy
      refine count_swap G.nd (u := p) (v := z) hp hz pz c1 b2 ?_ ?_ fun w w1 w2 => ?_
      all_goals simp [rv4, e1, *, Ne.symm py, Ne.symm pz, Ne.symm px, Ne.symm yz, Ne.symm yx, Ne.symm zx]
    by_cases iz : i = z
    · subst iz
      refine count_swap G.nd (u := y) (v := x) hy hx yx c2 b3 ?_ ?_ fun w w1 w2 => ?_
      all_goals simp [rv4, e1, *, Ne.symm py, Ne.symm pz, Ne.symm px, Ne.symm yz, Ne.symm yx, Ne.symm zx]
    by_cases ix : i = x
    · subst ix
      refine count_swap G.nd (u := z) (v := p) hz hp pz.symm c3 b4 ?_ ?_ fun w w1 w2 => ?_
      all_goals simp [rv4, e1, *, Ne.symm py, Ne.symm pz, Ne.symm px, Ne.symm yz, Ne.symm yx, Ne.symm zx]
    refine List.countP_congr fun w _ => ?_
    simp [rv4, e1, ip, iy, iz, ix]
end Qt

namespace Qt
open Qh (count_swap count_off count_le isort isort_perm isort_sorted)
theorem cnt_lt {f g : Nat → Bool} {x : Nat} : ∀ {T : List Nat}, (∀ z ∈ T, g z = true → f z = true) → x ∈ T → f x = true → g x = false → T.countP g < T.countP f
  | y :: T, h, hx, fx, gx => by
    have r : T.countP g ≤ T.countP f := List.countP_mono_left fun z hz => h z (List.mem_cons_of_mem _ hz)
    rw [List.countP_cons, List.countP_cons]
    by_cases e : y = x
    · subst e
      rw [fx, gx]
      simp
      omega
    · have hx' : x ∈ T := by
        cases hx with
        | head => exact absurd rfl e
        | tail _ h => exact h
      have ih := cnt_lt (T := T) (fun z hz => h z (List.mem_cons_of_mem _ hz)) hx' fx gx
      have hy := h y (List.mem_cons_self ..)
      by_cases c : g y = true
      · rw [c, hy c]
        omega
      · rw [Bool.not_eq_true] at c
        rw [c]
        simp
        omega
theorem hh {p : Nat} {R T U : List Nat} {s : Nat → Nat} (hR : (T ++ U).Perm R) (mono : ∀ x ∈ T, ∀ y ∈ U, s x ≤ s y) (hT : T.length = s p) :
    ∀ (k : Nat) (b : Nat → Nat → Bool), Tr (p :: R) b s → T.countP (fun x => !b p x) ≤ k → ∃ b', Tr (p :: R) b' s ∧ (∀ x ∈ T, b' p x = true) ∧ ∀ y ∈ U, b' p y = false := by
  intro k
  induction k with
  | zero =>
    intro b G h
    have h1 : ∀ x ∈ T, b p x = true := fun x hx => by
      have := List.countP_eq_zero.mp (Nat.le_zero.mp h) x hx
      simpa using this
    refine ⟨b, G, h1, fun y hy => ?_⟩
    have d := G.deg p (List.mem_cons_self ..)
    rw [List.countP_cons, G.irr p, ← hR.countP_eq, List.countP_append, List.countP_eq_length.mpr h1] at d
    simp at d
    have u0 : U.countP (b p) = 0 := by omega
    have := List.countP_eq_zero.mp u0 y hy
    simpa using this
  | succ k ih =>
    intro b G h
    by_cases e : T.countP (fun x => !b p x) = 0
    · exact ih b G (by omega)
    obtain ⟨x, hx, fx⟩ := List.countP_pos_iff.mp (by omega : 0 < T.countP fun x => !b p x)
    have bpx : b p x = false := by simpa using fx
    have nd := G.nd
    obtain ⟨np, ndR⟩ := List.nodup_cons.mp nd
    have ndTU := hR.nodup_iff.mpr ndR
    have dis : ∀ z ∈ T, z ∉ U := fun z hz hu => (List.nodup_append.mp ndTU).2.2 z hz z hu rfl
    have inT : ∀ {z}, z ∈ T → z ∈ R := fun hz => hR.mem_iff.mp (List.mem_append_left _ hz)
    have inU : ∀ {z}, z ∈ U → z ∈ R := fun hz => hR.mem_iff.mp (List.mem_append_right _ hz)
    have neP : ∀ {z}, z ∈ R → p ≠ z := fun hz e => np (e ▸ hz)
    have d := G.deg p (List.mem_cons_self ..)
    rw [List.countP_cons, G.irr p, ← hR.countP_eq, List.countP_append] at d
    have lt : T.countP (b p) < T.countP (fun _ => true) := cnt_lt (fun _ _ _ => rfl) hx rfl bpx
    rw [List.countP_true] at lt
    simp at d
    obtain ⟨y, hy, bpy⟩ := List.countP_pos_iff.mp (by omega : 0 < U.countP (b p))
    have xR := inT hx
    have yR := inU hy
    have px := neP xR
    have py := neP yR
    have yx : y ≠ x := fun e => dis x hx (e ▸ hy)
    have P0 : p ∈ p :: R := List.mem_cons_self ..
    have Px : x ∈ p :: R := List.mem_cons_of_mem _ xR
    have Py : y ∈ p :: R := List.mem_cons_of_mem _ yR
    have bxp : b x p = true := by rw [G.anti x Px p P0 px.symm, bpx]; rfl
    have byp : b y p = false := by rw [G.anti y Py p P0 py.symm, bpy]; rfl
    have done : ∀ b', Tr (p :: R) b' s → (b' p x = true) → (∀ z, z ≠ x → z ≠ y → b' p z = b p z) → ∃ b', Tr (p :: R) b' s ∧ (∀ x ∈ T, b' p x = true) ∧ ∀ y ∈ U, b' p y = false := fun b' G' e1 e2 => by
      refine ih b' G' ?_
      have : T.countP (fun z => !b' p z) < T.countP fun z => !b p z := by
        refine cnt_lt (x := x) (fun z hz c => ?_) hx fx (by simpa using e1)
        by_cases zx : z = x
        · subst zx
          exact fx
        · have zy : z ≠ y := fun e => dis z hz (e ▸ hy)
          have := e2 z zx zy
          simp only [this] at c
          exact c
      omega
    by_cases byx : b y x = true
    · refine done _ (tr_ring3 G P0 Py Px py px yx bpy byx bxp) ?_ fun z zx zy => ?_
      · simp [rv3, e1]
      · simp [rv3, e1, zx, zy, py, px]
    · rw [Bool.not_eq_true] at byx
      have bxy : b x y = true := by rw [G.anti x Px y Py yx.symm, byx]; rfl
      have key : ∃ z ∈ p :: R, b y z = true ∧ b x z = false := by
        refine Classical.byContradiction fun no => ?_
        have le : ∀ z ∈ p :: R, b y z = true → b x z = true := fun z hz c => by
          refine Classical.byContradiction fun d => no ⟨z, hz, c, by simpa using d⟩
        have := cnt_lt (T := p :: R) (f := b x) (g := b y) (x := p) le P0 bxp byp
        rw [← G.deg x Px, ← G.deg y Py] at this
        have := mono x hx y hy
        omega
      obtain ⟨z, Pz, byz, bxz⟩ := key
      have zp : p ≠ z := fun e => by
        rw [← e, byp] at byz
        exact Bool.noConfusion byz
      have zx : z ≠ x := fun e => by
        rw [e, byx] at byz
        exact Bool.noConfusion byz
      have zy : y ≠ z := fun e => by
        rw [← e, G.irr] at byz
        exact Bool.noConfusion byz
      have bzx : b z x = true := by rw [G.anti z Pz x Px zx, bxz]; rfl
      refine done _ (tr_ring4 G P0 Py Pz Px py zp px zy yx zx bpy byz bzx bxp) ?_ fun w wx wy => ?_
      · simp [rv4, e1]
      · simp [rv4, e1, wx, wy, py, px, zp, zx]
def lf (s : Nat → Nat) (T : List Nat) (i : Nat) : Nat := if i ∈ T then s i else s i - 1
theorem step {p : Nat} {R T U : List Nat} {s : Nat → Nat} {b : Nat → Nat → Bool} (G : Tr (p :: R) b s) (hR : (T ++ U).Perm R) (mono : ∀ x ∈ T, ∀ y ∈ U, s x ≤ s y) (hT : T.length = s p) :
    (∃ b', Tr R b' (lf s T)) ∧ ∀ y ∈ U, 1 ≤ s y := by
  obtain ⟨b', G', h1, h2⟩ := hh hR mono hT _ b G (Nat.le_refl _)
  obtain ⟨np, ndR⟩ := List.nodup_cons.mp G'.nd
  have ndTU := hR.nodup_iff.mpr ndR
  have dis : ∀ z ∈ T, z ∉ U := fun z hz hu => (List.nodup_append.mp ndTU).2.2 z hz z hu rfl
  have neP : ∀ {z}, z ∈ R → p ≠ z := fun hz e => np (e ▸ hz)
  have P0 : p ∈ p :: R := List.mem_cons_self ..
  have dg : ∀ i ∈ R, s i = R.countP (b' i) + if i ∈ T then 0 else 1 := fun i hi => by
    have d := G'.deg i (List.mem_cons_of_mem _ hi)
    rw [List.countP_cons] at d
    have a := G'.anti i (List.mem_cons_of_mem _ hi) p P0 (neP hi).symm
    by_cases c : i ∈ T
    · rw [h1 i c] at a
      rw [if_pos c, d, a]
      rfl
    · have u : i ∈ U := by
        rcases List.mem_append.mp (hR.mem_iff.mpr hi) with h | h
        · exact absurd h c
        · exact h
      rw [h2 i u] at a
      rw [if_neg c, d, a]
      rfl
  refine ⟨⟨b', ndR, G'.irr, fun i hi j hj ij => G'.anti i (List.mem_cons_of_mem _ hi) j (List.mem_cons_of_mem _ hj) ij, fun i hi => ?_⟩, fun y hy => ?_⟩
  · have := dg i hi
    unfold lf
    split at this <;> rename_i c
    · rw [if_pos c]
      omega
    · rw [if_neg c]
      omega
  · have yR : y ∈ R := hR.mem_iff.mp (List.mem_append_right _ hy)
    have := dg y yR
    rw [if_neg fun h => dis y h hy] at this
    omega
theorem deg_le {p : Nat} {R : List Nat} {s : Nat → Nat} {b : Nat → Nat → Bool} (G : Tr (p :: R) b s) : s p ≤ R.length := by
  have d := G.deg p (List.mem_cons_self ..)
  rw [List.countP_cons, G.irr p] at d
  have := List.countP_le_length (p := b p) (l := R)
  simp at d
  omega
end Qt

namespace Qt
open Qh (isort isort_perm isort_sorted ins_perm)
def leS (s : Nat → Nat) (i j : Nat) : Bool := decide (s i < s j ∨ s i = s j ∧ i ≤ j)
theorem leS_tr (s : Nat → Nat) (a b c : Nat) (h1 : leS s a b = true) (h2 : leS s b c = true) : leS s a c = true := by
  unfold leS at *
  simp only [decide_eq_true_eq] at *
  omega
theorem leS_to (s : Nat → Nat) (a b : Nat) : (leS s a b || leS s b a) = true := by
  unfold leS
  simp only [Bool.or_eq_true, decide_eq_true_eq]
  omega
def ord (s : Nat → Nat) (l : List Nat) : List Nat := isort (leS s) l
theorem ord_perm (s : Nat → Nat) (l : List Nat) : (ord s l).Perm l := isort_perm _ _
theorem ord_rises (s : Nat → Nat) (l : List Nat) : (ord s l).Pairwise fun x y => s x ≤ s y := by
  refine (isort_sorted (leS_tr s) (leS_to s) l).imp fun {a b} h => ?_
  unfold leS at h
  simp only [decide_eq_true_eq] at h
  omega
def lo (s : Nat → Nat) (p m : Nat) : List Nat := (ord s (List.range' (p + 1) m)).take (s p)
def hi (s : Nat → Nat) (p m : Nat) : List Nat := (ord s (List.range' (p + 1) m)).drop (s p)
def dn (s : Nat → Nat) (V : List Nat) (i : Nat) : Nat := if i ∈ V then s i - 1 else s i
def madeF : Nat → Nat → (Nat → Nat) → Nat → List Nat
  | 0, _, _, _ => []
  | m + 1, p, s, i => if i = p then lo s p m else (if i ∈ hi s p m then [p] else []) ++ madeF m (p + 1) (dn s (hi s p m)) i
theorem tr_congr {P : List Nat} {b : Nat → Nat → Bool} {s t : Nat → Nat} (G : Tr P b s) (h : ∀ i ∈ P, t i = s i) : Tr P b t := ⟨G.nd, G.irr, G.anti, fun i hi => by rw [h i hi, G.deg i hi]⟩
theorem r_mem {p m i : Nat} : i ∈ List.range' p m ↔ p ≤ i ∧ i < p + m := by
  rw [List.mem_range'_1]
theorem lohi (s : Nat → Nat) (p m : Nat) : (lo s p m ++ hi s p m).Perm (List.range' (p + 1) m) := by
  unfold lo hi
  rw [List.take_append_drop]
  exact ord_perm _ _
theorem lohi_or {s : Nat → Nat} {p m i : Nat} (h : i ∈ List.range' (p + 1) m) : i ∈ lo s p m ∧ i ∉ hi s p m ∨ i ∉ lo s p m ∧ i ∈ hi s p m := by
  have nd : (lo s p m ++ hi s p m).Nodup := (lohi s p m).nodup_iff.mpr List.nodup_range'
  have dis := (List.nodup_append.mp nd).2.2
  rcases List.mem_append.mp ((lohi s p m).mem_iff.mpr h) with a | a
  · exact .inl ⟨a, fun b => dis i a i b rfl⟩
  · exact .inr ⟨fun b => dis i b i a rfl, a⟩
theorem lo_in {s : Nat → Nat} {p m i : Nat} (h : i ∈ lo s p m) : p < i ∧ i < p + 1 + m := by
  have := r_mem.mp ((lohi s p m).mem_iff.mp (List.mem_append_left _ h))
  omega
theorem one_step {p m : Nat} {s : Nat → Nat} {b : Nat → Nat → Bool} (G : Tr (List.range' p (m + 1)) b s) :
    (∃ b', Tr (List.range' (p + 1) m) b' (dn s (hi s p m))) ∧ (∀ y ∈ hi s p m, 1 ≤ s y) ∧ (lo s p m).length = s p ∧ s p ≤ m := by
  rw [List.range'_succ] at G
  have l := deg_le G
  rw [List.length_range'] at l
  have lT : (lo s p m).length = s p := by
    unfold lo
    rw [List.length_take, (ord_perm _ _).length_eq, List.length_range']
    omega
  have mono : ∀ x ∈ lo s p m, ∀ y ∈ hi s p m, s x ≤ s y := by
    have := ord_rises s (List.range' (p + 1) m)
    rw [← List.take_append_drop (s p) (ord s _)] at this
    exact (List.pairwise_append.mp this).2.2
  obtain ⟨⟨b', G'⟩, h⟩ := step G (lohi s p m) mono lT
  refine ⟨⟨b', tr_congr G' fun i hi' => ?_⟩, h, lT, l⟩
  unfold dn lf
  rcases lohi_or (s := s) hi' with ⟨a, c⟩ | ⟨a, c⟩
  · rw [if_neg c, if_pos a]
  · rw [if_pos c, if_neg a]
structure To (P : List Nat) (F : Nat → List Nat) : Prop where
  nd : ∀ i ∈ P, (F i).Nodup
  lt : ∀ i ∈ P, ∀ j ∈ F i, j ∈ P ∧ j ≠ i
  one : ∀ i ∈ P, ∀ j ∈ P, i ≠ j → (j ∈ F i ↔ i ∉ F j)
theorem made : ∀ (m p : Nat) (s : Nat → Nat) (b : Nat → Nat → Bool), Tr (List.range' p m) b s → To (List.range' p m) (madeF m p s) ∧ ∀ i ∈ List.range' p m, (madeF m p s i).length = s i
  | 0, p, s, b, G => ⟨⟨fun i h => absurd h (by simp), fun i h => absurd h (by simp), fun i h => absurd h (by simp)⟩, fun i h => absurd h (by simp)⟩
  | m + 1, p, s, b, G => by
    obtain ⟨⟨b', G'⟩, h1, h2, h3⟩ := one_step G
    obtain ⟨I, L⟩ := made m (p + 1) _ b' G'
    have nd : (lo s p m ++ hi s p m).Nodup := (lohi s p m).nodup_iff.mpr List.nodup_range'
    have up : ∀ {i}, i ∈ List.range' p (m + 1) → i ≠ p → i ∈ List.range' (p + 1) m := fun {i} h e => by
      rw [r_mem] at *
      omega
    have dwn : ∀ {i}, i ∈ List.range' (p + 1) m → i ∈ List.range' p (m + 1) := fun {i} h => by
      rw [r_mem] at *
      omega
    have at_p : madeF (m + 1) p s p = lo s p m := by
      unfold madeF
      rw [if_pos rfl]
    have at_i : ∀ {i}, i ≠ p → madeF (m + 1) p s i = (if i ∈ hi s p m then [p] else []) ++ madeF m (p + 1) (dn s (hi s p m)) i := fun {i} e => by
      conv => lhs; unfold madeF
      rw [if_neg e]
    have later : ∀ {i j}, i ∈ List.range' (p + 1) m → j ∈ madeF m (p + 1) (dn s (hi s p m)) i → p < j := fun {i j} h1 h2 => by
      have := r_mem.mp (I.lt i h1 j h2).1
      omega
    have mem_i : ∀ {i j}, i ∈ List.range' (p + 1) m → (j ∈ madeF (m + 1) p s i ↔ i ∈ hi s p m ∧ j = p ∨ j ∈ madeF m (p + 1) (dn s (hi s p m)) i) := fun {i j} h => by
      have e : i ≠ p := by
        rw [r_mem] at h
        omega
      rw [at_i e, List.mem_append]
      split <;> rename_i c <;> simp [c]
    refine ⟨⟨fun i h => ?_, fun i h j hj => ?_, fun i h j k ij => ?_⟩, fun i h => ?_⟩
    · by_cases e : i = p
      · rw [e, at_p]
        exact (List.nodup_append.mp nd).1
      · have h' := up h e
        rw [at_i e]
        split
        · refine List.nodup_cons.mpr ⟨fun c => ?_, I.nd i h'⟩
          have := later h' c
          omega
        · exact I.nd i h'
    · by_cases e : i = p
      · rw [e, at_p] at hj
        have := lo_in hj
        rw [r_mem]
        omega
      · have h' := up h e
        rcases (mem_i h').mp hj with ⟨_, c⟩ | c
        · rw [c, r_mem]
          omega
        · exact ⟨dwn (I.lt i h' j c).1, (I.lt i h' j c).2⟩
    · by_cases e : i = p
      · have jp : j ≠ p := fun c => ij (by rw [e, c])
        have k' := up k jp
        rw [e, at_p, mem_i k']
        have x : p ∉ madeF m (p + 1) (dn s (hi s p m)) j := fun c => by
          have := later k' c
          omega
        rcases lohi_or (s := s) k' with ⟨a, c⟩ | ⟨a, c⟩ <;> simp [a, c, x]
      · by_cases e' : j = p
        · have h' := up h e
          rw [e', at_p, mem_i h']
          have x : p ∉ madeF m (p + 1) (dn s (hi s p m)) i := fun c => by
            have := later h' c
            omega
          rcases lohi_or (s := s) h' with ⟨a, c⟩ | ⟨a, c⟩ <;> simp [a, c, x]
        · have h' := up h e
          have k' := up k e'
          rw [mem_i h', mem_i k']
          have := I.one i h' j k' ij
          simp [e, e', this]
    · by_cases e : i = p
      · rw [e, at_p, h2]
      · have h' := up h e
        rw [at_i e, List.length_append, L i h']
        unfold dn
        split <;> rename_i c
        · have := h1 i c
          rw [List.length_singleton]
          omega
        · exact Nat.zero_add _
end Qt

namespace Qt
open Pd Ts
def ex (l : List Int) (t : Int) : Int := (l.map fun x => max (x - t) 0).sum
def lw (l : List Int) (t : Int) : Int := (l.map fun x => max (t - x) 0).sum
theorem lw_perm {a b : List Int} (h : a.Perm b) (t : Int) : lw a t = lw b t := Ts.perm_sum (h.map _)
theorem lw_nonneg (t : Int) : ∀ l : List Int, 0 ≤ lw l t
  | [] => Int.le_refl _
  | x :: l => by
    have := lw_nonneg t l
    unfold lw at *
    rw [List.map_cons, List.sum_cons]
    omega
theorem lw_app (a b : List Int) (t : Int) : lw (a ++ b) t = lw a t + lw b t := by
  unfold lw
  rw [List.map_append, List.sum_append]
theorem lw_ge (t : Int) : ∀ l : List Int, l.length * t - l.sum ≤ lw l t
  | [] => by simp [lw]
  | x :: l => by
    have ih := lw_ge t l
    unfold lw at *
    rw [List.map_cons, List.sum_cons, List.sum_cons, List.length_cons, show (((l.length + 1 : Nat) : Int)) = (l.length : Int) + 1 by omega, Int.add_mul]
    omega
theorem lw_take (e : List Int) {k : Nat} (hk : k ≤ e.length) (t : Int) : (k : Int) * t - (e.take k).sum ≤ lw e t := by
  have h : lw e t = lw (e.take k) t + lw (e.drop k) t := by rw [← lw_app, List.take_append_drop]
  have := lw_ge t (e.take k)
  have := lw_nonneg t (e.drop k)
  rw [List.length_take, Nat.min_eq_left hk] at *
  omega
theorem lw_high {t : Int} : ∀ {l : List Int}, (∀ x ∈ l, t ≤ x) → lw l t = 0
  | [], _ => rfl
  | x :: l, h => by
    have ih := lw_high (l := l) fun y hy => h y (List.mem_cons_of_mem _ hy)
    have := h x (List.mem_cons_self ..)
    unfold lw at *
    rw [List.map_cons, List.sum_cons, ih]
    omega
theorem lw_has {t : Int} : ∀ {e : List Int}, e.Pairwise (· ≤ ·) → ∃ k, k ≤ e.length ∧ lw e t = (k : Int) * t - (e.take k).sum
  | [], _ => ⟨0, Nat.le_refl _, by simp [lw]⟩
  | x :: e, h => by
    obtain ⟨h1, h2⟩ := List.pairwise_cons.mp h
    by_cases c : t ≤ x
    · refine ⟨0, Nat.zero_le _, ?_⟩
      rw [lw_high fun y hy => by
        rcases List.mem_cons.mp hy with rfl | hy
        · exact c
        · have := h1 y hy
          omega]
      simp
    · obtain ⟨k, hk, e1⟩ := lw_has (t := t) h2
      refine ⟨k + 1, Nat.succ_le_succ hk, ?_⟩
      have : lw (x :: e) t = max (t - x) 0 + lw e t := by
        unfold lw
        rw [List.map_cons, List.sum_cons]
      rw [this, e1, List.take_succ_cons, List.sum_cons, show (((k + 1 : Nat) : Int)) = (k : Int) + 1 by omega, Int.add_mul]
      omega
def Low (d : Int) (a : List Int) : Prop := ∀ k : Nat, k ≤ a.length → df (up a) k ≤ d
theorem tri_gap (k t : Int) : k * t - tri k ≤ tri (t + 1) := by
  have h1 := tri_even k
  have h2 := tri_even (t + 1)
  have h3 : 0 ≤ (t - k) * (t - k + 1) := by
    rcases (show 0 ≤ t - k ∨ t - k + 1 ≤ 0 by omega) with h | h
    · exact Int.mul_nonneg h (by omega)
    · exact Int.mul_nonneg_of_nonpos_of_nonpos (by omega) h
  have e1 : k * (k - 1) = k * k - k := by rw [Int.mul_sub, Int.mul_one]
  have e2 : (t + 1) * (t + 1 - 1) = t * t + t := by rw [show t + 1 - 1 = t by omega, Int.add_mul, Int.one_mul]
  have e3 : (t - k) * (t - k + 1) = t * t - 2 * (k * t) + k * k + t - k := by
    rw [Int.mul_add, Int.mul_one, Int.mul_sub, Int.sub_mul, Int.sub_mul, Int.mul_comm t k]
    omega
  rw [e1] at h1
  rw [e2] at h2
  rw [e3] at h3
  omega
theorem low_lw {d : Int} {a : List Int} (h : Low d a) (t : Int) : lw a t ≤ tri (t + 1) + d := by
  obtain ⟨k, hk, e⟩ := lw_has (t := t) (Pd.up_sorted a)
  rw [← lw_perm (up_perm a), e]
  have := h k (by rw [up_len] at hk; exact hk)
  have := tri_gap k t
  unfold df at *
  omega
theorem low_mxd (a : List Int) : Low (mxd a) a := fun k hk => by
  have := Ts.dfs_mem hk
  rw [dfs_cons] at this
  unfold mxd
  rw [dfs_cons]
  exact Ts.mx_in this
theorem mxd_has (a : List Int) : ∃ k, k ≤ a.length ∧ df (up a) k = mxd a := by
  have := Ts.mx_mem ((dfs a).tail) ((dfs a).headD 0)
  have e : (dfs a).headD 0 :: (dfs a).tail = dfs a := by rw [dfs_cons]; rfl
  rw [e] at this
  obtain ⟨k, hk, e2⟩ := List.mem_map.mp this
  exact ⟨k, by have := List.mem_range.mp hk; omega, e2⟩
theorem mxd_pos (a : List Int) : 0 ≤ mxd a := by
  rw [mxd_eq]
  exact (mx_ge _ _).1
theorem poss_iff (a : List Int) : poss a = true ↔ Low 0 a ∧ a.sum = tri a.length := by
  unfold poss
  rw [Bool.and_eq_true, decide_eq_true_eq, decide_eq_true_eq]
  have e : df (up a) a.length = tri a.length - a.sum := by
    unfold df
    rw [← up_len a, List.take_length, Ts.perm_sum (up_perm a), up_len]
  rw [e]
  refine ⟨fun h => ⟨fun k hk => ?_, by omega⟩, fun h => ⟨?_, by omega⟩⟩
  · have := low_mxd a k hk
    omega
  · obtain ⟨k, hk, e⟩ := mxd_has a
    have := h.1 k hk
    have := mxd_pos a
    omega
def apart : List Int → List Int → Int
  | x :: a, y :: b => max (x - y) (y - x) + apart a b
  | _, _ => 0
theorem apart_ge {t : Int} : ∀ {a r : List Int}, a.length = r.length → 2 * (lw a t - lw r t) ≤ apart a r + (r.sum - a.sum)
  | [], [], _ => by simp [apart, lw]
  | x :: a, z :: r, h => by
    have ih := apart_ge (t := t) (a := a) (r := r) (by simpa using h)
    unfold lw at *
    unfold apart
    simp only [List.map_cons, List.sum_cons]
    omega
theorem far {a r : List Int} (hl : a.length = r.length) (hs : a.sum = r.sum) (hr : poss r = true) : 2 * mxd a ≤ apart a r := by
  obtain ⟨k, hk, e⟩ := mxd_has a
  have h1 := lw_take (up a) (k := k) (by rw [up_len]; exact hk) k
  rw [lw_perm (up_perm a)] at h1
  have h2 := low_lw ((poss_iff r).mp hr).1 k
  have h3 := apart_ge (t := k) hl
  have e1 := tri_even k
  have e2 := tri_even ((k : Int) + 1)
  have e3 : (k : Int) * ((k : Int) - 1) = (k : Int) * k - k := by rw [Int.mul_sub, Int.mul_one]
  have e4 : ((k : Int) + 1) * ((k : Int) + 1 - 1) = (k : Int) * k + k := by rw [show (k : Int) + 1 - 1 = k by omega, Int.add_mul, Int.one_mul]
  unfold df at e
  omega
structure Lo (a : List Int) (d : Int) (c : List Int) : Prop where
  len : c.length = a.length
  sum : c.sum = a.sum - d
  pw : ∀ (k : Nat) (x y : Int), a[k]? = some x → c[k]? = some y → y ≤ x
  exs : ∀ t, ex c t = max 0 (ex a t - d)
def neg (l : List Int) : List Int := l.map fun x => -x
end Qt

namespace Qt
open Pd Ts
def cutF (lv : Int) : Int → List Int → List Int
  | _, [] => []
  | left, x :: xs => (min x lv - if lv ≤ x ∧ 0 < left then 1 else 0) :: cutF lv (left - if lv ≤ x ∧ 0 < left then 1 else 0) xs
theorem cut_len (lv : Int) : ∀ (l : List Int) (left : Int), (cutF lv left l).length = l.length
  | [], _ => rfl
  | x :: l, left => by
    unfold cutF
    rw [List.length_cons, List.length_cons, cut_len lv l]
end Qt

namespace Zk
open PySem PySem.Spec PyProof.Rows L2 LamX NdefX
abbrev Grow (h h' : Heap) : Prop := ∀ b o, h.get? b = some o → h'.get? b = some o
theorem Grow.then {a b c : Heap} (x : Grow a b) (y : Grow b c) : Grow a c := fun p o e => y p o (x p o e)
section
variable {P : Program} {w : World} {A : Around} {env : Env} {h0 : Heap}
end
section
variable {P : Program} {w : World} {A : Around} {s : Shared}
end
end Zk
namespace Pd
open PySem PySem.Spec PyProof.Rows L2 LamX NdefX
inductive KP where
  | self
  | neg (j : Nat)
def KP.val (rows : Nat → List Int) (i : Nat) : KP → Int
  | .self => (i : Int)
  | .neg j => -((rows j).getD i 0)
end Pd

namespace Pd
open PySem PySem.Spec PyProof.Rows L2 LamX NdefX
section
variable {X : Cx} {T : List (Addr × Str)} {E : XK} {k : Nat}
end
end Pd

namespace Pd
open PySem PySem.Spec PyProof.Rows L2 LamX NdefX
section
variable {P : Program} {w : World} {K : PySem.W.Frag} {mg : Str → Option Value} {base : Heap} {T : List (Addr × Str)}
end
end Pd

namespace Pd
open PySem PySem.Spec PyProof.Rows L2 LamX
section
variable {X : Cx} {T : List (Addr × Str)} {E : XK} {k : Nat}
end
end Pd

namespace Tt
open PySem PySem.Spec PyProof.Rows L2 LamX Pd
open Qt (To Tr madeF)
abbrev F_is_integer := Ts.F_is_integer
abbrev F_is_from := Ts.F_is_from
abbrev Nl (ps : List Nat) : List Int := ps.map fun (i : Nat) => (i : Int)
abbrev Tl (ps : List Nat) : D := Ti (Nl ps)
abbrev Ll (ps : List Nat) : D := Li (Nl ps)
def leN (i j : Nat) : Bool := decide (i ≤ j)
def asc (ns : List Int) : Bool := (ns.zip (ns.drop 1)).all fun q => decide (q.1 < q.2)
def rws (n : Nat) (G : Nat → List Nat) : List D := (List.range n).map fun i => Tl (G i)
abbrev rwD (n : Nat) (G : Nat → List Nat) : D := .tup (rws n G)
structure Gd (n : Nat) (G : Nat → List Nat) : Prop where
  n1 : 1 ≤ n
  n16 : n ≤ 16
  to : To (List.range n) G
  asc : ∀ i, i < n → (G i).Pairwise (· < ·)
abbrev trD (n : Nat) (G : Nat → List Nat) : D := .ins "Tournament" [("own_beaten", rwD n G)]
def Sc (n : Nat) (s : Nat → Nat) : Prop := 1 ≤ n ∧ n ≤ 16 ∧ ∃ b, Tr (List.range n) b s
def Sv (n : Nat) (s : Nat → Nat) : List Int := (List.range n).map fun i => (s i : Int)
def mdR (n : Nat) (s : Nat → Nat) (i : Nat) : List Nat := Qh.isort leN (madeF n 0 s i)
def F_is_ascending : Fn := fun ds Q _ => ∃ ns, ds = [Ti ns] ∧ ns.length ≤ 1000 ∧ Q (.bl (asc ns))
def F_are_indices : Fn := fun ds Q _ => ∃ ns m, ds = [Ti ns, .int m] ∧ ns.length ≤ 1000 ∧ Q (.bl ((ns.all fun i => decide (0 ≤ i) && decide (i ≤ m - 1)) && asc ns))
def F_are_results : Fn := fun ds Q _ => ∃ n G, ds = [rwD n G] ∧ Gd n G ∧ Q (.bl true)
def F_Tournament_init : IFn := fun ds P _ => ∃ n G, ds = [rwD n G] ∧ Gd n G ∧ P [("own_beaten", rwD n G)]
abbrev I_Tournament : IFn := starF 0 F_Tournament_init
def F_Tournament_of : Fn := fun ds Q _ => ∃ n G, ds = [.cls "Tournament", rwD n G] ∧ Gd n G ∧ Q (trD n G)
def F_Tournament_scores : Fn := fun ds Q _ => ∃ n G, ds = [trD n G] ∧ n ≤ 64 ∧ Q (Ti (Sv n fun i => (G i).length))
def F_require_index : Fn := fun ds Q _ => ∃ (i n : Nat), ds = [.int (i : Int), .int (n : Int)] ∧ i < n ∧ Q .non
def F_Tournament_beats : Fn := fun ds Q _ => ∃ (n : Nat) (G : Nat → List Nat) (i j : Nat), ds = [trD n G, .int (i : Int), .int (j : Int)] ∧ i < n ∧ j < n ∧ Q (.bl (decide (j ∈ G i)))
end Tt

namespace Tt
open PySem PySem.Spec PyProof.Rows L2 LamX Pd
def N_is_integer : List Str := ["value"]
def w_is_integer : WS := (sRet (wAnd (w1 (dIsi "int") (wVar 0)) (wNot (w1 (dIsi "bool") (wVar 0)))))
def N_is_from : List Str := ["value", "first", "last"]
def w_is_from : WS := (sRet (wAnd (wCall F_is_integer (wCons (wVar 0) wNil)) (wChain dLe dLe (wVar 1) (wVar 0) (wVar 2))))
def N_is_ascending : List Str := ["items", "one", "other"]
def w_is_ascending : WS := (sRet (x1 fAll (wLst (wComp (wZip (wVar 0) (wSl (wVar 0) (wPart (W.ret (.int 1))) (W.ret none))) (gTupP (gsCons (gNm 1) (gsCons (gNm 2) gsNil)) 2) (W.ret true) (wBin dLt (wVar 1) (wVar 2)) [1, 2]))))
def N_are_indices : List Str := ["value", "size", "one"]
def w_are_indices : WS := (sSeq (sIf (tOrP (tNotP (wTest (w1 (dIsi "tuple") (wVar 0)))) (tNotP (wTest (x1 fAll (wLst (wComp (wItems (wVar 0)) (gNm 2) (W.ret true) (wCall F_is_from (wCons (wVar 2) (wCons (W.ret (.int 0)) (wCons (wBin dSub (wVar 1) (W.ret (.int 1))) wNil)))) [2])))))) (sRet (W.ret (.bl false))) sNil) (sRet (wCall F_is_ascending (wCons (wVar 0) wNil))))
def N_are_results : List Str := ["beaten", "many", "other", "one", "player", "row"]
def w_are_results : WS := (sSeq (sSet 1 (w1 dLen (wVar 0))) (sSeq (sIf (tOrP (tNotP (wTest (wChain dLe dLe (W.ret (.int 1)) (wVar 1) (W.ret (.int 16))))) (tNotP (wTest (x1 fAll (wLst (wComp (wItems (wVar 0)) (gNm 5) (W.ret true) (wCall F_are_indices (wCons (wVar 5) (wCons (wVar 1) wNil))) [5])))))) (sRet (W.ret (.bl false))) sNil) (sSeq (sIf (wTest (x1 fAny (wLst (wComp (wEnum (wVar 0)) (gTupP (gsCons (gNm 4) (gsCons (gNm 5) gsNil)) 2) (W.ret true) (xBin fIn (wVar 4) (wVar 5)) [4, 5])))) (sRet (W.ret (.bl false))) sNil) (sRet (x1 fAll (wLst (wComp2 (wRng1 (wVar 1)) (gNm 2) (W.ret true) (wRng1 (wVar 2)) (gNm 3) (W.ret true) (xBin fNe (xBin fIn (wVar 3) (xBin fIdx (wVar 0) (wVar 2))) (xBin fIn (wVar 2) (xBin fIdx (wVar 0) (wVar 3)))) [2, 3] [3])))))))
def N_Tournament_init : List Str := ["self", "beaten"]
def w_Tournament_init : WS := (sSeq (sIf (tNotP (wTest (wCall F_are_results (wCons (wVar 1) wNil)))) (sRaise "InvalidTournament") sNil) (sFldO 0 "Tournament" "own_beaten" (wVar 1)))
def N_Tournament_of : List Str := ["cls", "beaten"]
def w_Tournament_of : WS := (sSeq (sIf (tNotP (wTest (w1 (dIsi "tuple") (wVar 1)))) (sRaise "InvalidTournament") sNil) (sRet (wMakeL 0 "Tournament" I_Tournament (wStar (wVar 1) wNil))))
def N_Tournament_scores : List Str := ["self", "row"]
def w_Tournament_scores : WS := (sRet (w1 dTuple (wLst (wComp (wItems (wFld "Tournament" "own_beaten" (wVar 0))) (gNm 1) (W.ret true) (w1 dLen (wVar 1)) [1]))))
def N_require_index : List Str := ["value", "size"]
def w_require_index : WS := (sIf (tNotP (wTest (wCall F_is_from (wCons (wVar 0) (wCons (W.ret (.int 0)) (wCons (wBin dSub (wVar 1) (W.ret (.int 1))) wNil)))))) (sRaiseV "InvalidNumber" "value" (wVar 0)) sNil)
def N_Tournament_beats : List Str := ["self", "one", "other"]
def w_Tournament_beats : WS := (sSeq (sDrop (wCall F_require_index (wCons (wVar 1) (wCons (w1 dLen (wFld "Tournament" "own_beaten" (wVar 0))) wNil)))) (sSeq (sDrop (wCall F_require_index (wCons (wVar 2) (wCons (w1 dLen (wFld "Tournament" "own_beaten" (wVar 0))) wNil)))) (sRet (xBin fIn (wVar 2) (xBin fIdx (wFld "Tournament" "own_beaten" (wVar 0)) (wVar 1))))))
end Tt

namespace Tt
open PySem PySem.Spec PyProof.Rows L2 LamX Pd
open Qt (To Tr madeF)
theorem pure_is_integer (ds : List D) (Q : D → Prop) (Ex : Xc → Prop) (h : F_is_integer ds Q Ex) : w_is_integer (dEnds Q Ex) (startE N_is_integer ds) := Ts.pure_is_integer ds Q Ex h
theorem len_is_integer (ds : List D) (Q : D → Prop) (Ex : Xc → Prop) (h : F_is_integer ds Q Ex) : ds.length = 1 := Ts.len_is_integer ds Q Ex h
theorem pure_is_from (ds : List D) (Q : D → Prop) (Ex : Xc → Prop) (h : F_is_from ds Q Ex) : w_is_from (dEnds Q Ex) (startE N_is_from ds) := Ts.pure_is_from ds Q Ex h
theorem len_is_from (ds : List D) (Q : D → Prop) (Ex : Xc → Prop) (h : F_is_from ds Q Ex) : ds.length = 3 := Ts.len_is_from ds Q Ex h
theorem zip_ints (a b : List Int) : zipD (a.map D.int) (b.map D.int) = (a.zip b).map fun q : Int × Int => .tup [.int q.1, .int q.2] := by
  unfold zipD
  rw [List.zip_map, List.map_map]
  rfl
theorem comp_zip {a b : List Int} {v u : Nat} {e : W D} {Q : List D → PEnv → Prop} (E : Option Sl → Option Sl → PEnv) (h : Int → Int → D) (s0 s1 : Option Sl) (hE : ∀ s z x y, ((wipeE (E s z) [v, u]).set v (some (.d x))).set u (some (.d y)) = E (some (.d x)) (some (.d y)))
    (he : ∀ x y : Int, ∀ (K : D → PEnv → Prop) ex, K (h x y) (E (some (.d (.int x))) (some (.d (.int y)))) → e (E (some (.d (.int x))) (some (.d (.int y)))) K ex)
    (hQ : ∀ s z, Q ((a.zip b).map fun q => h q.1 q.2) (E s z)) : compW (gTupP (gsCons (gNm v) (gsCons (gNm u) gsNil)) 2) (W.ret true) e [v, u] Q (zipD (a.map D.int) (b.map D.int)) (E s0 s1) [] := by
  rw [zip_ints]
  refine comp_pair (t := W.ret true) E (fun q => .int q.1) (fun q => .int q.2) (fun q => h q.1 q.2) (fun _ => true) (a.zip b) s0 s1 [] hE (fun q _ K ex k => k) (fun q _ _ => he q.1 q.2) fun s z => ?_
  rw [List.filter_eq_self.mpr fun _ _ => rfl]
  exact hQ s z
theorem pure_is_ascending (ds : List D) (Q : D → Prop) (Ex : Xc → Prop) (h : F_is_ascending ds Q Ex) : w_is_ascending (dEnds Q Ex) (startE N_is_ascending ds) := by
  obtain ⟨ns, rfl, hl, q⟩ := h
  show compW _ _ _ _ _ (zipD (ns.map D.int) (Pd.cutD (ns.map D.int) (some ((1 : Nat) : Int)) none)) _ _
  rw [cut_from, ← List.map_drop]
  refine comp_zip (fun s z => [some (.d (Ti ns)), s, z]) (fun x y => .bl (decide (x < y))) none none (fun _ _ _ _ => rfl) (fun x y K ex k => k) fun s z => ?_
  refine ⟨(ns.zip (ns.drop 1)).map fun q : Int × Int => decide (q.1 < q.2), by rw [List.map_map]; rfl, ?_⟩
  rw [List.all_map]
  exact q
theorem len_is_ascending (ds : List D) (Q : D → Prop) (Ex : Xc → Prop) (h : F_is_ascending ds Q Ex) : ds.length = 1 := by
  obtain ⟨x, rfl, _⟩ := h
  rfl
theorem pure_are_indices (ds : List D) (Q : D → Prop) (Ex : Xc → Prop) (h : F_are_indices ds Q Ex) : w_are_indices (dEnds Q Ex) (startE N_are_indices ds) := by
  obtain ⟨ns, m, rfl, hl, q⟩ := h
  refine br_ff rfl ?_
  refine comp_all (fun s => [some (.d (Ti ns)), some (.d (.int m)), s]) (fun i => D.int i) (fun i => .bl (decide (0 ≤ i) && decide (i ≤ m - 1))) ns none [] (fun _ _ => rfl) (fun i hi K ex k => ⟨.int i, 0, m - 1, rfl, rfl, k⟩) fun s => ?_
  refine ⟨ns.map fun i => decide (0 ≤ i) && decide (i ≤ m - 1), by rw [List.nil_append, List.map_map]; rfl, ?_⟩
  rw [List.all_map]
  show br (!(ns.all fun i => decide (0 ≤ i) && decide (i ≤ m - 1))) _ _
  refine br_no (br_of (fun h => ?_) (fun h => ?_))
  · rw [h, Bool.true_and] at q
    exact ⟨ns, rfl, hl, q⟩
  · rw [h, Bool.false_and] at q
    exact q
theorem len_are_indices (ds : List D) (Q : D → Prop) (Ex : Xc → Prop) (h : F_are_indices ds Q Ex) : ds.length = 2 := by
  obtain ⟨x, y, rfl, _⟩ := h
  rfl
theorem asc_true : ∀ {ns : List Int}, ns.Pairwise (· < ·) → asc ns = true
  | [], _ => rfl
  | [x], _ => rfl
  | x :: y :: ns, h => by
    obtain ⟨h1, h2⟩ := List.pairwise_cons.mp h
    have ih := asc_true h2
    unfold asc at *
    show (decide (x < y) && _) = true
    rw [decide_eq_true (h1 y (List.mem_cons_self ..)), Bool.true_and]
    exact ih
theorem any_nat (l : List Nat) (i : Nat) : ((Nl l).map D.int).any (fun y => eqb y (.int (i : Int))) = decide (i ∈ l) := by
  rw [List.map_map, List.any_map]
  induction l with
  | nil => simp
  | cons x l ih =>
    rw [List.any_cons, ih]
    show (decide ((x : Int) = (i : Int)) || _) = _
    by_cases h : x = i
    · subst h
      simp
    · have h1 : ¬ (x : Int) = (i : Int) := by omega
      have h2 : ¬ i = x := fun e => h e.symm
      rw [decide_eq_false h1]
      simp [h2]
theorem plain_nats (l : List Nat) : ((Nl l).map D.int).all (plain 59) = true := by
  rw [List.all_eq_true]
  intro x hx
  obtain ⟨i, _, rfl⟩ := List.mem_map.mp hx
  rfl
theorem idx_rw {n i : Nat} (G : Nat → List Nat) (h : i < n) : dIdx (rwD n G) (.int (i : Int)) = some (Tl (G i)) := by
  refine Ts.idx_items rfl (by omega) ?_
  unfold rws
  rw [Int.toNat_natCast, List.getElem?_map, List.getElem?_range h]
  rfl
theorem rws_len (n : Nat) (G : Nat → List Nat) : (rws n G).length = n := by
  unfold rws
  rw [List.length_map, List.length_range]
theorem cmp_all {α : Type} {u : Nat} {e : W D} {Q : List D → PEnv → Prop} (E : Option Sl → PEnv) (enc h : α → D) (hE : ∀ s x, (wipeE (E s) [u]).set u (some (.d x)) = E (some (.d x))) (hW : ∀ s, wipeE (E s) [u] = E none) :
    ∀ (as : List α) (s0 : Option Sl) (acc : List D), acc.length + as.length ≤ 1000000 → (∀ a ∈ as, ∀ (K : D → PEnv → Prop) ex, K (h a) (E (some (.d (enc a)))) → e (E (some (.d (enc a)))) K ex) → Q (acc ++ as.map h) (E none) → cmpW (gNm u) (W.ret true) e [u] Q (as.map enc) (E s0) acc
  | [], s0, acc, _, _, hQ => by
    show Q acc (wipeE (E s0) [u])
    rw [hW]
    simpa using hQ
  | a :: as, s0, acc, hl, he, hQ => by
    show br true (e ((wipeE (E s0) [u]).set u (some (.d (enc a)))) _ _) _
    rw [hE]
    refine br_tt rfl (he a List.mem_cons_self _ _ ⟨by simp at hl; omega, cmp_all E enc h hE hW as _ _ (by simp at hl ⊢; omega) (fun b hb => he b (List.mem_cons_of_mem _ hb)) ?_⟩)
    rw [List.append_assoc]
    exact hQ
theorem comp2_dep {α β : Type} {v u : Nat} {it : W (List D)} {e : W D} {Q : List D → PEnv → Prop} (E : Option Sl → Option Sl → PEnv) (e1 : α → D) (e2 : β → D) (h : α → β → D) (bs : α → List β) (B : Nat)
    (hE1 : ∀ s z x, (wipeE (E s z) [v, u]).set v (some (.d x)) = E (some (.d x)) none) (hE2 : ∀ s z y, (wipeE (E s z) [u]).set u (some (.d y)) = E s (some (.d y))) (hW : ∀ s z, wipeE (E s z) [u] = E s none) :
    ∀ (as : List α) (s0 z0 : Option Sl) (acc : List D), acc.length + as.length * B ≤ 1000000 → (∀ a ∈ as, (bs a).length ≤ B) →
    (∀ a ∈ as, ∀ z (K : List D → PEnv → Prop) ex, K ((bs a).map e2) (E (some (.d (e1 a))) z) → it (E (some (.d (e1 a))) z) K ex) →
    (∀ a ∈ as, ∀ b ∈ bs a, ∀ (K : D → PEnv → Prop) ex, K (h a b) (E (some (.d (e1 a))) (some (.d (e2 b)))) → e (E (some (.d (e1 a))) (some (.d (e2 b)))) K ex) →
    (∀ s z, Q (acc ++ as.flatMap fun a => (bs a).map (h a)) (E s z)) → comp2W (gNm v) (W.ret true) it (gNm u) (W.ret true) e [v, u] [u] Q (as.map e1) (E s0 z0) acc
  | [], s0, z0, acc, _, _, _, _, hQ => by
    have := hQ s0 z0
    rw [List.flatMap_nil, List.append_nil] at this
    exact this
  | a :: as, s0, z0, acc, hl, hB, hit, he, hQ => by
    have el : (as.length + 1) * B = as.length * B + B := by rw [Nat.add_mul, Nat.one_mul]
    rw [List.length_cons, el] at hl
    have hb := hB a (List.mem_cons_self ..)
    show br true (it ((wipeE (E s0 z0) [v, u]).set v (some (.d (e1 a)))) _ _) _
    rw [hE1]
    refine br_tt rfl (hit a (List.mem_cons_self ..) _ _ _ ?_)
    refine cmp_all (fun z => E (some (.d (e1 a))) z) e2 (h a) (fun z y => hE2 _ z y) (fun z => hW _ z) (bs a) none acc (by omega) (fun b hb => he a (List.mem_cons_self ..) b hb) ?_
    refine comp2_dep E e1 e2 h bs B hE1 hE2 hW as _ _ _ (by rw [List.length_append, List.length_map]; omega) (fun c hc => hB c (List.mem_cons_of_mem _ hc)) (fun c hc => hit c (List.mem_cons_of_mem _ hc)) (fun c hc => he c (List.mem_cons_of_mem _ hc)) fun s z => ?_
    have := hQ s z
    rw [List.flatMap_cons] at this
    rw [List.append_assoc]
    exact this
theorem enD_range (f : Nat → D) : ∀ (n k : Nat), enD k ((List.range' k n).map f) = (List.range' k n).map fun (i : Nat) => D.tup [.int (i : Int), f i]
  | 0, k => rfl
  | n + 1, k => by
    rw [List.range'_succ]
    show D.tup [.int (k : Int), f k] :: enD (k + 1) ((List.range' (k + 1) n).map f) = _
    rw [enD_range f n (k + 1)]
    rfl
theorem upTo_nat (n : Nat) : Pd.upTo 0 (n : Int) = (List.range n).map fun (i : Nat) => D.int (i : Int) := by
  unfold Pd.upTo
  rw [show ((n : Int) - 0).toNat = n by omega]
  refine List.map_congr_left fun i _ => ?_
  rw [Int.zero_add]
theorem sub_len {l : List Nat} {n : Nat} (nd : l.Nodup) (h : ∀ i ∈ l, i < n) : l.length ≤ n := by
  have := Qh.nodup_len nd (m := List.range n) fun i hi => List.mem_range.mpr (h i hi)
  rwa [List.length_range] at this
theorem Gd.lt {n : Nat} {G : Nat → List Nat} (g : Gd n G) {i j : Nat} (hi : i < n) (hj : j ∈ G i) : j < n ∧ j ≠ i := by
  have := g.to.lt i (List.mem_range.mpr hi) j hj
  exact ⟨List.mem_range.mp this.1, this.2⟩
theorem Gd.len {n : Nat} {G : Nat → List Nat} (g : Gd n G) {i : Nat} (hi : i < n) : (G i).length ≤ n := sub_len (g.to.nd i (List.mem_range.mpr hi)) fun j hj => (g.lt hi hj).1
theorem asc_nats {l : List Nat} (h : l.Pairwise (· < ·)) : asc (Nl l) = true := asc_true (List.pairwise_map.mpr (h.imp fun {a b} h => by omega))
theorem pure_are_results (ds : List D) (Q : D → Prop) (Ex : Xc → Prop) (h : F_are_results ds Q Ex) : w_are_results (dEnds Q Ex) (startE N_are_results ds) := by
  obtain ⟨n, G, rfl, g, q⟩ := h
  have n1 := g.n1
  have n16 := g.n16
  have el : (((rws n G).length : Nat) : Int) = (n : Int) := by rw [rws_len]
  refine br_tt (decide_eq_true (by rw [el]; omega)) ?_
  refine br_no (br_tt (decide_eq_true (by rw [el]; omega)) ?_)
  rw [el]
  refine comp_all (fun s => [some (.d (rwD n G)), some (.d (.int (n : Int))), none, none, none, s]) (fun i => Tl (G i)) (fun i => .bl true) (List.range n) none [] (fun _ _ => rfl) (fun i hi K ex k => ?_) fun s => ?_
  · have hi := List.mem_range.mp hi
    refine ⟨Nl (G i), (n : Int), rfl, ?_, ?_⟩
    · have := g.len hi
      rw [List.length_map]
      omega
    · have e1 : ((Nl (G i)).all fun i => decide (0 ≤ i) && decide (i ≤ (n : Int) - 1)) = true := by
        rw [List.all_eq_true]
        intro x hx
        obtain ⟨j, hj, rfl⟩ := List.mem_map.mp hx
        have := (g.lt hi hj).1
        rw [decide_eq_true (show (0 : Int) ≤ (j : Int) by omega), decide_eq_true (show (j : Int) ≤ (n : Int) - 1 by omega)]
        rfl
      rw [e1, asc_nats (g.asc i hi)]
      exact k
  · refine ⟨(List.range n).map fun _ => true, by rw [List.nil_append, List.map_map]; rfl, ?_⟩
    have e1 : (((List.range n).map fun _ => true).all id) = true := by
      rw [List.all_map]
      exact List.all_eq_true.mpr fun _ _ => rfl
    rw [e1]
    refine br_no (br_tt rfl ?_)
    dsimp only [sNil]
    have e2 : enD 0 (rws n G) = (List.range n).map fun (i : Nat) => D.tup [.int (i : Int), Tl (G i)] := by
      unfold rws
      rw [List.range_eq_range']
      exact enD_range _ n 0
    show compW _ _ _ _ _ (enD 0 (rws n G)) _ _
    rw [e2]
    refine comp_pair (t := W.ret true) (v := 4) (u := 5) (fun a b => [some (.d (rwD n G)), some (.d (.int (n : Int))), none, none, a, b]) (fun i : Nat => D.int (i : Int)) (fun i => Tl (G i)) (fun i => .bl false) (fun _ => true) (List.range n) none none [] (fun _ _ _ _ => rfl) (fun i _ K ex k => k) (fun i hi _ K ex k => ?_) fun s z => ?_
    · have hi := List.mem_range.mp hi
      refine ⟨by rw [plain_nats]; rfl, ?_⟩
      rw [any_nat, decide_eq_false fun hm => (g.lt hi hm).2 rfl]
      exact k
    · refine ⟨(List.range n).map fun _ => false, by rw [List.filter_eq_self.mpr fun _ _ => rfl, List.nil_append, List.map_map]; rfl, ?_⟩
      have e3 : (((List.range n).map fun _ => false).any id) = false := by
        rw [List.any_map]
        exact List.any_eq_false.mpr fun _ _ h => by simp at h
      rw [e3]
      refine br_ff rfl ?_
      dsimp only [sNil]
      refine ⟨by omega, by omega, ?_⟩
      show comp2W _ _ _ _ _ _ _ _ _ (Pd.upTo 0 (n : Int)) [_, _, _, _, _, _] _
      rw [upTo_nat]
      refine comp2_dep (v := 2) (u := 3) (fun a b => [some (.d (rwD n G)), some (.d (.int (n : Int))), a, b, none, none]) (fun i : Nat => D.int (i : Int)) (fun i : Nat => D.int (i : Int)) (fun _ _ => .bl true) (fun i => List.range i) 16 (fun _ _ _ => rfl) (fun _ _ _ => rfl) (fun _ _ => rfl) (List.range n) none none [] ?_ (fun a ha => ?_) (fun a ha z K ex k => ?_) (fun a ha b hb K ex k => ?_) fun s z => ?_
      · rw [List.length_range]
        show 0 + n * 16 ≤ 1000000
        omega
      · have := List.mem_range.mp ha
        rw [List.length_range]
        omega
      · have := List.mem_range.mp ha
        refine ⟨by omega, by omega, ?_⟩
        show K (Pd.upTo 0 (a : Int)) _
        rw [upTo_nat]
        exact k
      · have ha := List.mem_range.mp ha
        have hb := List.mem_range.mp hb
        refine ⟨_, idx_rw G ha, by rw [plain_nats]; rfl, _, idx_rw G (by omega), by rw [plain_nats]; rfl, rfl, ?_⟩
        rw [any_nat, any_nat]
        have one := g.to.one a (List.mem_range.mpr ha) b (List.mem_range.mpr (by omega)) (by omega)
        have e : (!eqb (.bl (decide (b ∈ G a))) (.bl (decide (a ∈ G b)))) = true := by
          by_cases c : b ∈ G a
          · rw [decide_eq_true c, decide_eq_false (one.mp c)]
            rfl
          · rw [decide_eq_false c, decide_eq_true (Classical.byContradiction fun z => c (one.mpr z))]
            rfl
        rw [e]
        exact k
      · refine ⟨(List.range n).flatMap fun a => (List.range a).map fun _ => true, ?_, ?_⟩
        · rw [List.nil_append, List.map_flatMap]
          congr 1
          funext a
          rw [List.map_map]
          rfl
        · have e4 : (((List.range n).flatMap fun a => (List.range a).map fun _ => true).all id) = true := by
            rw [List.all_eq_true]
            intro x hx
            obtain ⟨a, _, hx⟩ := List.mem_flatMap.mp hx
            obtain ⟨b, _, rfl⟩ := List.mem_map.mp hx
            rfl
          rw [e4]
          exact q
theorem len_are_results (ds : List D) (Q : D → Prop) (Ex : Xc → Prop) (h : F_are_results ds Q Ex) : ds.length = 1 := by
  obtain ⟨n, G, rfl, _⟩ := h
  rfl
end Tt

namespace Tt
open PySem PySem.Spec PyProof.Rows L2 LamX Pd
open Qt (To Tr madeF)
theorem pure_Tournament_init (p : Addr) (ds : List D) (P : List (Str × D) → Prop) (Ex : Xc → Prop) (h : F_Tournament_init ds P Ex) : w_Tournament_init (iEnds p "Tournament" P Ex) (startI N_Tournament_init p "Tournament" ds) := by
  obtain ⟨n, G, rfl, g, q⟩ := h
  refine ⟨n, G, rfl, g, br_no (br_tt rfl ?_)⟩
  exact ⟨rfl, List.not_mem_nil, Nat.le_of_ble_eq_true rfl, rfl, rfl, q⟩
theorem pure_Tournament_of (ds : List D) (Q : D → Prop) (Ex : Xc → Prop) (h : F_Tournament_of ds Q Ex) : w_Tournament_of (dEnds Q Ex) (startE N_Tournament_of ds) := by
  obtain ⟨n, G, rfl, g, q⟩ := h
  refine br_ff rfl ?_
  dsimp only [sNil]
  have := rws_len n G
  have := g.n16
  refine ⟨rfl, Nat.zero_le _, ?_, n, G, ?_, g, q⟩
  · show (rws n G ++ []).length ≤ 1000000
    rw [List.append_nil]
    omega
  · show [] ++ [D.tup (rws n G ++ [])] = _
    rw [List.append_nil]
    rfl
theorem len_Tournament_of (ds : List D) (Q : D → Prop) (Ex : Xc → Prop) (h : F_Tournament_of ds Q Ex) : ds.length = 2 := by
  obtain ⟨n, G, rfl, _⟩ := h
  rfl
theorem pure_Tournament_scores (ds : List D) (Q : D → Prop) (Ex : Xc → Prop) (h : F_Tournament_scores ds Q Ex) : w_Tournament_scores (dEnds Q Ex) (startE N_Tournament_scores ds) := by
  obtain ⟨n, G, rfl, hn, q⟩ := h
  refine ⟨rfl, _, rfl, ?_⟩
  refine comp_all (fun s => [some (.d (trD n G)), s]) (fun i => Tl (G i)) (fun i => .int ((G i).length : Int)) (List.range n) none [] (fun _ _ => rfl) (fun i hi K ex k => ?_) fun s => ?_
  · show K (.int (((Nl (G i)).map D.int).length : Int)) _
    rw [List.length_map, List.length_map]
    exact k
  · have e : Ti (Sv n fun i => (G i).length) = .tup ((List.range n).map fun (i : Nat) => D.int ((G i).length : Int)) := by
      unfold Sv
      show D.tup (List.map _ (List.map _ _)) = _
      rw [List.map_map]
      rfl
    rw [e] at q
    exact q
theorem len_Tournament_scores (ds : List D) (Q : D → Prop) (Ex : Xc → Prop) (h : F_Tournament_scores ds Q Ex) : ds.length = 1 := by
  obtain ⟨n, G, rfl, _⟩ := h
  rfl
theorem pure_require_index (ds : List D) (Q : D → Prop) (Ex : Xc → Prop) (h : F_require_index ds Q Ex) : w_require_index (dEnds Q Ex) (startE N_require_index ds) := by
  obtain ⟨i, n, rfl, hi, q⟩ := h
  refine ⟨.int (i : Int), 0, (n : Int) - 1, rfl, rfl, br_no (br_tt ?_ q)⟩
  show (decide ((0 : Int) ≤ (i : Int)) && decide ((i : Int) ≤ (n : Int) - 1)) = true
  rw [decide_eq_true (by omega), decide_eq_true (by omega)]
  rfl
theorem len_require_index (ds : List D) (Q : D → Prop) (Ex : Xc → Prop) (h : F_require_index ds Q Ex) : ds.length = 2 := by
  obtain ⟨i, n, rfl, _⟩ := h
  rfl
theorem pure_Tournament_beats (ds : List D) (Q : D → Prop) (Ex : Xc → Prop) (h : F_Tournament_beats ds Q Ex) : w_Tournament_beats (dEnds Q Ex) (startE N_Tournament_beats ds) := by
  obtain ⟨n, G, i, j, rfl, hi, hj, q⟩ := h
  have el : ∀ k : Nat, [D.int (k : Int), .int ((rws n G).length : Int)] = [.int (k : Int), .int (n : Int)] := fun k => by rw [rws_len]
  refine ⟨rfl, _, rfl, ?_⟩
  refine ⟨i, n, el i, hi, ?_⟩
  refine ⟨rfl, _, rfl, ?_⟩
  refine ⟨j, n, el j, hj, ?_⟩
  refine ⟨rfl, _, rfl, ?_⟩
  refine ⟨_, idx_rw G hi, by rw [plain_nats]; rfl, ?_⟩
  rw [any_nat]
  exact q
theorem len_Tournament_beats (ds : List D) (Q : D → Prop) (Ex : Xc → Prop) (h : F_Tournament_beats ds Q Ex) : ds.length = 3 := by
  obtain ⟨n, G, i, j, rfl, _⟩ := h
  rfl
end Tt

namespace Tt
open PySem PySem.Spec PyProof.Rows L2 LamX Pd
open Qt (To Tr madeF dn lo hi)
def kvs (p m : Nat) (s : Nat → Nat) : List (Key × D) := (List.range' p m).map fun (i : Nat) => ((Sum.inl (i : Int) : Key), D.int (s i : Int))
theorem inl_ne {i j : Nat} (h : i ≠ j) : ¬ (Sum.inl (i : Int) : Key) = Sum.inl (j : Int) := fun z => h (by have := Sum.inl.inj z; omega)
theorem kvs_len (p m : Nat) (s : Nat → Nat) : (kvs p m s).length = m := by
  unfold kvs
  rw [List.length_map, List.length_range']
theorem kvs_any {p m i : Nat} (s : Nat → Nat) : ((kvs p m s).any fun kv => decide (kv.1 = (Sum.inl (i : Int) : Key))) = decide (p ≤ i ∧ i < p + m) := by
  unfold kvs
  rw [List.any_map, Bool.eq_iff_iff, List.any_eq_true, decide_eq_true_eq]
  refine ⟨fun ⟨j, hj, e⟩ => ?_, fun h => ⟨i, List.mem_range'_1.mpr h, decide_eq_true rfl⟩⟩
  have e := of_decide_eq_true e
  have : (j : Int) = (i : Int) := Sum.inl.inj e
  have := List.mem_range'_1.mp hj
  omega
theorem kvs_put {p m i : Nat} {s t : Nat → Nat} (hi : p ≤ i ∧ i < p + m) (ht : ∀ j, j ≠ i → t j = s j) : putD (kvs p m s) (Sum.inl (i : Int)) (.int (t i : Int)) = kvs p m t := by
  unfold putD
  rw [kvs_any, decide_eq_true hi, if_pos rfl]
  unfold kvs
  rw [List.map_map]
  refine List.map_congr_left fun j _ => ?_
  show (if (Sum.inl (j : Int) : Key) = Sum.inl (i : Int) then _ else _) = _
  by_cases c : j = i
  · subst c
    rw [if_pos rfl]
  · rw [if_neg (inl_ne c), ht j c]
theorem kvs_look {p m i : Nat} {s : Nat → Nat} (h : p ≤ i ∧ i < p + m) : lookD (kvs p m s) (Sum.inl (i : Int)) = some (.int (s i : Int)) := by
  unfold lookD
  have : (kvs p m s).find? (fun kv => decide (kv.1 = (Sum.inl (i : Int) : Key))) = some (Sum.inl (i : Int), .int (s i : Int)) := by
    cases e : (kvs p m s).find? (fun kv => decide (kv.1 = (Sum.inl (i : Int) : Key))) with
    | none =>
      have := List.find?_eq_none.mp e (Sum.inl (i : Int), .int (s i : Int)) (List.mem_map.mpr ⟨i, List.mem_range'_1.mpr h, rfl⟩)
      exact absurd (decide_eq_true rfl) this
    | some kv =>
      have h1 : kv.1 = (Sum.inl (i : Int) : Key) := of_decide_eq_true (List.find?_some (p := fun kv : Key × D => decide (kv.1 = (Sum.inl (i : Int) : Key))) e)
      have h2 := List.mem_of_find?_eq_some e
      obtain ⟨j, _, e2⟩ := List.mem_map.mp h2
      have : (j : Int) = (i : Int) := Sum.inl.inj (by rw [← h1, ← e2])
      have : j = i := by omega
      rw [← e2, this]
  rw [this]
  rfl
abbrev cxA (n : Nat) (A : Nat → Addr) (C : Nat → List Nat) : List (Addr × List D) := (List.range n).map fun i => (A i, (Nl (C i)).map D.int)
abbrev rwA (n : Nat) (A : Nat → Addr) : List D := (List.range n).map fun i => D.raw (.ref (A i))
def Inj (n : Nat) (A : Nat → Addr) : Prop := ∀ i j, i < n → j < n → A i = A j → i = j
def addC (C : Nat → List Nat) (i : Nat) (l : List Nat) (j : Nat) : List Nat := if j = i then C j ++ l else C j
theorem cx_set {n i : Nat} {A : Nat → Addr} (I : Inj n A) (C : Nat → List Nat) (hi : i < n) (l : List Nat) : celSet (cxA n A C) (A i) ((Nl (C i)).map D.int ++ (Nl l).map D.int) = cxA n A (addC C i l) := by
  unfold celSet
  rw [List.map_map]
  refine List.map_congr_left fun j hj => ?_
  have hj := List.mem_range.mp hj
  show (if A j = A i then _ else _) = (A j, (Nl (addC C i l j)).map D.int)
  unfold addC
  by_cases c : j = i
  · subst c
    rw [if_pos rfl, if_pos rfl, ← List.map_append, ← List.map_append]
  · rw [if_neg fun e => c (I j i hj hi e), if_neg c]
theorem idx_rwA {n i : Nat} {A : Nat → Addr} (h : i < n) : dIdx (.lst (rwA n A)) (.int (i : Int)) = some (.raw (.ref (A i))) := by
  refine Ts.idx_items (x := .lst (rwA n A)) rfl (by omega) ?_
  rw [Int.toNat_natCast, List.getElem?_map, List.getElem?_range h]
  rfl
theorem cx_mem {n i : Nat} {A : Nat → Addr} {C : Nat → List Nat} (h : i < n) : (A i, (Nl (C i)).map D.int) ∈ cxA n A C := List.mem_map.mpr ⟨i, List.mem_range.mpr h, rfl⟩
theorem up_cast (l : List Nat) : up (Nl l) = Nl (Qh.isort leN l) := by
  unfold up
  rw [← Qh.ms_isort (le := leN) (fun a b c h1 h2 => by unfold leN at *; simp only [decide_eq_true_eq] at *; omega) (fun a b => by unfold leN; simp only [Bool.or_eq_true, decide_eq_true_eq]; omega) (fun a b h1 h2 => by unfold leN at *; simp only [decide_eq_true_eq] at *; omega)]
  refine (List.map_mergeSort (r := leN) (s := fun a b => decide (a ≤ b)) (f := fun (i : Nat) => (i : Int)) fun a _ b _ => ?_).symm
  unfold leN
  exact decide_eq_decide.mpr (by omega)
theorem isort_asc {l : List Nat} (nd : l.Nodup) : (Qh.isort leN l).Pairwise (· < ·) := by
  have h := Qh.isort_sorted (le := leN) (fun a b c h1 h2 => by unfold leN at *; simp only [decide_eq_true_eq] at *; omega) (fun a b => by unfold leN; simp only [Bool.or_eq_true, decide_eq_true_eq]; omega) l
  have nd' := (Qh.isort_perm leN l).nodup_iff.mpr nd
  refine (h.and nd').imp fun {a b} h => ?_
  have h1 : a ≤ b := by simpa [leN] using h.1
  have := h.2
  omega
end Tt

namespace Tt
open PySem PySem.Spec PyProof.Rows L2 LamX Pd
open Qt (To Tr madeF dn lo hi)
def putC (C : Nat → List Nat) (p : Nat) (V : List Nat) (i : Nat) : List Nat := if i ∈ V then C i ++ [p] else C i
theorem putC_snoc {C : Nat → List Nat} {p x : Nat} {V : List Nat} (h : x ∉ V) : addC (putC C p V) x [p] = putC C p (V ++ [x]) := by
  funext i
  unfold addC putC
  by_cases c : i = x
  · subst c
    rw [if_pos rfl, if_neg h, if_pos (by simp)]
  · rw [if_neg c]
    by_cases d : i ∈ V
    · rw [if_pos d, if_pos (by simp [d])]
    · rw [if_neg d, if_neg (by simp [d, c])]
theorem dn_snoc {s : Nat → Nat} {x : Nat} {V : List Nat} (h : x ∉ V) : (∀ j, j ≠ x → dn s (V ++ [x]) j = dn s V j) ∧ dn s (V ++ [x]) x = s x - 1 ∧ dn s V x = s x := by
  unfold Qt.dn
  refine ⟨fun j hj => ?_, by rw [if_pos (by simp)], by rw [if_neg h]⟩
  by_cases d : j ∈ V
  · rw [if_pos d, if_pos (by simp [d])]
  · rw [if_neg d, if_neg (by simp [d, hj])]
abbrev eM (n : Nat) (s0 : Nat → Nat) (A : Nat → Addr) (ks : List (Key × D)) (s3 s4 s5 s6 s7 s8 c9 : Option Sl) : PEnv := [some (.d (Ti (Sv n s0))), some (.dct none (.s ks)), some (.own (rwA n A)), s3, s4, s5, s6, s7, s8, c9]
theorem putC_nil (C : Nat → List Nat) (p : Nat) : putC C p [] = C := by
  funext i
  unfold putC
  rw [if_neg (by simp)]
theorem dn_nil (s : Nat → Nat) : dn s [] = s := by
  funext i
  unfold Qt.dn
  rw [if_neg (by simp)]
theorem inner {n p m : Nat} {s0 s : Nat → Nat} {A : Nat → Addr} {C : Nat → List Nat} {s4 s5 s6 s7 s8 c9 : Option Sl} {U : List Nat} {b : (PEnv → Prop) → PEnv → Prop} {fin : PEnv → Prop} {pe : PEnds}
    (I : Inj n A) (hb : ∀ K env, (sSeq (sDrop (wAppendC 9 (wIxOwn 2 (wVar 6)) (wVar 3))) (sDctPut 1 (wVar 6) (wBin dSub (wDctGet 1 (wVar 6)) (W.ret (.int 1))))) { pe with nx := K } env → b K env)
    (nU : U.Nodup) (hU : ∀ x ∈ U, p < x ∧ x < p + 1 + m ∧ 1 ≤ s x) (hn : p + 1 + m = n) (n16 : n ≤ 16) (hB : ∀ i, i < n → (C i).length ≤ 100) (hc : celsOf c9 = cxA n A C)
    (done : ∀ s6 c9, celsOf c9 = cxA n A (putC C p U) → fin (eM n s0 A (kvs (p + 1) m (dn s U)) (some (.d (.int (p : Int)))) s4 s5 s6 s7 s8 c9)) :
    forW (gNm 6) b fin ((Nl U).map D.int) (eM n s0 A (kvs (p + 1) m s) (some (.d (.int (p : Int)))) s4 s5 s6 s7 s8 c9) := by
  refine forW_ind (fun rest env => ∃ (V V' : List Nat) (s6 c9 : Option Sl), rest = (Nl V').map D.int ∧ V ++ V' = U ∧ celsOf c9 = cxA n A (putC C p V) ∧ env = eM n s0 A (kvs (p + 1) m (dn s V)) (some (.d (.int (p : Int)))) s4 s5 s6 s7 s8 c9) ?_ ?_ _ _ ⟨[], U, s6, c9, rfl, rfl, by rw [putC_nil]; exact hc, by rw [dn_nil]⟩
  · rintro y rest env ⟨V, V', s6, c9, er, e, hc, rfl⟩ ih
    cases V' with
    | nil => cases er
    | cons x V' =>
      obtain ⟨rfl, rfl⟩ := List.cons_eq_cons.mp er
      have xU : x ∈ U := by rw [← e]; simp
      have xV : x ∉ V := fun h => by
        rw [← e] at nU
        exact (List.nodup_append.mp nU).2.2 x h x (List.mem_cons_self ..) rfl
      obtain ⟨x1, x2, x3⟩ := hU x xU
      have xn : x < n := by omega
      have mm : (A x, (Nl (putC C p V x)).map D.int) ∈ celsOf c9 := by
        rw [hc]
        exact cx_mem (C := putC C p V) xn
      refine hb _ _ ?_
      refine ⟨_, idx_rwA xn, _, mm, _, mm, ?_, ?_⟩
      · rw [List.length_map, List.length_map]
        unfold putC
        rw [if_neg xV]
        have := hB x xn
        omega
      obtain ⟨d1, d2, d3⟩ := dn_snoc (s := s) xV
      refine ⟨_, kvs_look (s := dn s V) ⟨by omega, by omega⟩, ?_, ?_⟩
      · rw [kvs_len]
        omega
      refine ih _ ⟨V ++ [x], V', some (.d (.int (x : Int))), some (.cels (celSet (celsOf c9) (A x) ((Nl (putC C p V x)).map D.int ++ (Nl [p]).map D.int))), rfl, by rw [List.append_assoc]; exact e, ?_, ?_⟩
      · show celSet (celsOf c9) (A x) (_ ++ (Nl [p]).map D.int) = _
        rw [hc, cx_set I (putC C p V) xn [p], putC_snoc xV]
      · have e2 : (D.int ((dn s V x : Int) - 1)) = .int ((dn s (V ++ [x]) x : Nat) : Int) := by
          rw [d2, d3]
          congr 1
          omega
        have := kvs_put (p := p + 1) (m := m) (i := x) (s := dn s V) (t := dn s (V ++ [x])) ⟨by omega, by omega⟩ d1
        rw [← e2] at this
        rw [← this]
        rfl
  · rintro env ⟨V, V', s6, c9, er, e, hc, rfl⟩
    cases V' with
    | nil =>
      rw [List.append_nil] at e
      subst e
      exact done _ _ hc
    | cons x V' => cases er
end Tt

namespace Tt
open PySem PySem.Spec PyProof.Rows L2 LamX Pd
open Qt (To Tr madeF lo hi)
theorem as_map {as : List Addr} {n : Nat} (h : as.length = n) {β : Type} (f : Addr → β) : as.map f = (List.range n).map fun i => f (as.getD i 0) := by
  apply List.ext_getElem?
  intro i
  rw [List.getElem?_map, List.getElem?_map]
  by_cases c : i < n
  · rw [List.getElem?_range c, List.getElem?_eq_getElem (by omega)]
    show _ = some (f (as.getD i 0))
    rw [List.getD_eq_getElem?_getD, List.getElem?_eq_getElem (by omega)]
    rfl
  · rw [List.getElem?_eq_none (by omega), List.getElem?_eq_none (by rw [List.length_range]; omega)]
    rfl
theorem as_inj {as : List Addr} {n : Nat} (h : as.length = n) (nd : as.Nodup) : Inj n fun i => as.getD i 0 := fun i j hi hj e => by
  have e : as.getD i 0 = as.getD j 0 := e
  rw [List.getD_eq_getElem?_getD, List.getD_eq_getElem?_getD, List.getElem?_eq_getElem (by omega), List.getElem?_eq_getElem (by omega)] at e
  exact (List.getElem_inj nd).mp e
end Tt

namespace Qt
open Pd Ts
abbrev sc (s : Nat → Nat) (l : List Nat) : List Int := l.map fun i => (s i : Int)
end Qt

namespace Pd
open PySem PySem.Spec PyProof.Rows L2 LamX
inductive HK where
  | lst (s : Str) (f : Option Str)
  | str (s : Str)
  | rep (s f : Str)
  | non
  | bl (b : Bool)
structure Hq where
  x : Str
  r : HK
def giveQ : HK → Xc → (D → Prop) → Prop
  | .lst s none, _, P => P (.lst [.str s])
  | .lst s (some f), x, P => ∃ v, x.fs.lookup f = some v ∧ P (.lst [.str s, v])
  | .str s, _, P => P (.str s)
  | .rep s f, x, P => ∃ v, x.fs.lookup f = some v ∧ ShoA v ∧ s.length + (shown v).length ≤ 1000000 ∧ P (.str (s ++ shown v))
  | .non, _, P => P .non
  | .bl b, _, P => P (.bl b)
def outQ : List Hq → Xc → (D → Prop) → Prop
  | [], _, _ => False
  | h :: r, x, P => (h.x = x.cls ∧ giveQ h.r x P) ∨ (h.x ≠ x.cls ∧ outQ r x P)
def wOutQ (cls : List Str) (hs : List Hq) (w : W D) : W D := fun env Q _ => w (dOnly env) (fun d _ => Q d env) (fun x => x.cls ∈ cls ∧ outQ hs x fun d => Q d env)
def tsStr (s : Str) : Addr → Value → Option Addr → TS := fun _ _ _ D σ H => D.rt (.str s) H
def tsBl (b : Bool) : Addr → Value → Option Addr → TS := fun _ _ _ D σ H => D.rt (.bl b) H
def tsNon : Addr → Value → Option Addr → TS := fun _ _ _ D σ H => D.rt .non H
def tsRep (K : PySem.W.Frag) (C : Str) (i : Nat) (s f : Str) : Addr → Value → Option Addr → TS := fun a cls d D σ H => tXf a cls d (He.ga K C) f (fun σ H Q => ∃ v, σ[i]? = some (some v) ∧ Q v H) σ H fun v H' =>
  ∃ (T : List (Addr × Str)) (wd : Wd) (z : Pd.D), Good T wd H' ∧ Rep K wd v z ∧ ShoA z ∧ s.length + (shown z).length ≤ 1000000 ∧ D.rt (.str (s ++ shown z)) H'
def clQ (K : PySem.W.Frag) (i : Nat) (h : Hq) : Clause := match h.r with
  | .lst s none => ⟨.ref (He.ga K h.x), none, tsPl s⟩
  | .lst s (some f) => ⟨.ref (He.ga K h.x), some i, tsNm K h.x i s f⟩
  | .str s => ⟨.ref (He.ga K h.x), none, tsStr s⟩
  | .rep s f => ⟨.ref (He.ga K h.x), some i, tsRep K h.x i s f⟩
  | .non => ⟨.ref (He.ga K h.x), none, tsNon⟩
  | .bl b => ⟨.ref (He.ga K h.x), none, tsBl b⟩
section
variable {X : Cx} {i : Nat}
theorem mqNil : MixOk X [] (([] : List Hq).map (clQ X.K i)) := .nil
theorem mqO {C : Str} {j : Nat} {p1 p2 p3 p5 : Pos} {hs : List ExceptHandler} {qs : List Hq} (gl : X.mg C = some (.ref (He.ga X.K C))) (r : MixOk X hs (qs.map (clQ X.K i))) (hg : Gl X C := by rfl) (hd : (C == ("__debug__" : Str)) = false := by decide) :
    MixOk X (.ExceptHandler (some (.Name C p1)) none [.Return (some (.Constant .none j p3)) p5] p2 :: hs) ((⟨C, .non⟩ :: qs).map (clQ X.K i)) :=
  .plain (c := .ref (He.ga X.K C)) (ts := tsNon) ⟨hg, hd, .inl gl⟩ (fun a oe cls d pn hz hf => pssI (pss_one (ps_ret pe_non)) fun D σ H h => h) r
end
theorem mix_outQ {K : PySem.W.Frag} {T : List (Addr × Str)} {cls : List Str} {i n : Nat} {x : Xc} {cl : Value} {dd : Option Addr} {wd : Wd} {H : Hp} {Dn : Ends} {P : Pd.D → Prop} (hx : x.cls ∈ cls) (xr : XRep K x cl dd wd H) (g : Good T wd H) (hi : i < n)
    (fin : ∀ d, P d → ∀ (v : V) (wd' : Wd) (H' : Hp), Ord wd wd' H → Good T wd' H' → Keep wd H H' → Rep K wd' v d → Dn.rt v H') {τ : L2.St} (hl : τ.length = n) :
    ∀ {hs : List Hq}, (∀ h ∈ hs, ∀ y ∈ cls, PySem.W.exmOne K (.ref (He.ga K y)) (.ref (He.ga K h.x)) = some (decide (h.x = y))) → outQ hs x P → wMix K (fun _ _ _ _ => False) Dn (hs.map (clQ K i)) cl dd τ H
  | [], _, h => h
  | h :: r, em, ho => by
    have e1 : cl = .ref (He.ga K x.cls) := xr.1
    have e2 := em h List.mem_cons_self x.cls hx
    have ec : (clQ K i h).c = .ref (He.ga K h.x) := by
      unfold clQ
      split <;> rfl
    have now : ∀ {d : Pd.D}, P d → ∀ {v : V}, Rep K wd v d → Dn.rt v H := fun hp v rp => fin _ hp v wd H (Ord.refl _ _) g (Keep.refl _ _) rp
    have new : ∀ {xs : List Pd.D}, P (.lst xs) → ∀ {vs : List V}, Reps K wd vs xs → vs.length ≤ sizeLine → ∀ p, H p = none → Dn.rt (.ref p) (upd H p (.lst vs)) := fun hp vs rv hz p hp' => by
      have gr : Grow wd H (wd.add p (.lst vs)) (upd H p (.lst vs)) := Grow.one hp' noTb_lst hz
      obtain ⟨a1, a2, a3⟩ := gr.all g
      exact fin _ hp _ _ _ a2 a1 a3 (.lst upd_same (rv.mono a2.le))
    have fld : ∀ {f : Str} {v : Pd.D}, x.fs.lookup f = some v → ∃ b vs v', dd = some b ∧ H b = some (.xd vs) ∧ vs.lookup f = some v' ∧ Rep K wd v' v := fun lv => by
      rcases xr.2 with ⟨z, _⟩ | ⟨b, vs, hb, hH, hn, hr⟩
      · rw [z] at lv
        cases lv
      · obtain ⟨v', l1, l2⟩ := lookup_reps hn hr lv
        exact ⟨b, vs, v', hb, hH, l1, l2⟩
    refine ⟨decide (h.x = x.cls), by rw [ec, e1]; exact e2, fun hy a ha => ?_, fun hn => ?_⟩
    · have hc := of_decide_eq_true hy
      rcases ho with ⟨_, ho⟩ | ⟨ne, _⟩
      · obtain ⟨hx', hr⟩ := h
        subst hc
        cases hr with
        | lst s f =>
          cases f with
          | none => exact ⟨by show 1 ≤ sizeLine; decide, fun p hp => new ho (.cons (.str _) .nil) (by show 1 ≤ sizeLine; decide) p hp⟩
          | some f =>
            obtain ⟨v, lv, ho⟩ := ho
            obtain ⟨b, vs, v', hb, hH, l1, l2⟩ := fld lv
            exact ⟨.ref a, List.getElem?_set_self (by rw [hl]; exact hi), rfl, e1, b, vs, v', hb, hH, l1, by show 2 ≤ sizeLine; decide, fun p hp => new ho (vs := [.str s, v']) (.cons (.str _) (.cons l2 .nil)) (by show 2 ≤ sizeLine; decide) p hp⟩
        | str s => exact now ho (.str s)
        | rep s f =>
          obtain ⟨v, lv, sh, hz, ho⟩ := ho
          obtain ⟨b, vs, v', hb, hH, l1, l2⟩ := fld lv
          exact ⟨.ref a, List.getElem?_set_self (by rw [hl]; exact hi), rfl, e1, b, vs, v', hb, hH, l1, T, wd, v, g, l2, sh, hz, now ho (.str _)⟩
        | non => exact now ho .non
        | bl b => exact now ho (.bl b)
      · exact absurd hc ne
    · have hc := of_decide_eq_false hn
      rcases ho with ⟨e, _⟩ | ⟨_, ho⟩
      · exact absurd e hc
      · exact mix_outQ hx xr g hi fin hl (fun k hk => em k (List.mem_cons_of_mem _ hk)) ho
end Pd

namespace Pd
open PySem PySem.Spec PyProof.Rows L2 LamX
def ExmQ (K : PySem.W.Frag) (cls : List Str) (hs : List Hq) : Prop := ∀ h ∈ hs, ∀ y ∈ cls, PySem.W.exmOne K (.ref (He.ga K y)) (.ref (He.ga K h.x)) = some (decide (h.x = y))
theorem exq_all {K : PySem.W.Frag} {cls : List Str} {hs : List Hq} (h : (cls.all fun y => (hs.map (·.x)).all fun h => decide (PySem.W.exmOne K (.ref (He.ga K y)) (.ref (He.ga K h)) = some (decide (h = y)))) = true) : ExmQ K cls hs := fun q hq y hy =>
  of_decide_eq_true (List.all_eq_true.mp (List.all_eq_true.mp h y hy) q.x (List.mem_map_of_mem hq))
def bodyQ (a : Str) (p1 p2 p3 p4 p5 p8 : Pos) (j : Nat) (hds : List ExceptHandler) : Option Str → List Stmt
  | none => [.Try [.Return (some (.Call (.Name a p1) [] [] p2)) p3] hds [] [] p8]
  | some fin => [.Try [.Expr (.Call (.Name a p1) [] [] p2) p3] hds [] [] p8, .Return (some (.Constant (.str fin) j p4)) p5]
structure OutQ (P : Program) (w : World) (K : PySem.W.Frag) (mg : Str → Option Value) (base : Heap) (x : Str) (cls : List Str) (hs : List Hq) (fin : Option Str) : Prop where
  ex : ∃ (a : Str) (pg : Arguments) (sg : Scope) (fd : FuncData) (g : Addr) (h0 : ExceptHandler) (hds : List ExceptHandler) (Ng : List Str) (i j : Nat) (p1 p2 p3 p4 p5 p8 : Pos), FunD K x x pg (bodyQ a p1 p2 p3 p4 p5 p8 j (h0 :: hds) fin) sg [] [] g fd ∧ mg x = some (.ref g) ∧ Binds K fd [a] [] ∧
    FnScope Ng [a] sg ∧ Ng[0]? = some a ∧ Vis sg a ∧ i < Ng.length ∧ (∀ (A : Around) (outer : List Env) (cdg : Value) (s : Shared) (H : Hp), A.guards = some [] → A.units + 100 < cLine → MixOk (cxOf C8.CX0 P w K mg base Ng x sg g cdg A outer s H C8.E0).nox (h0 :: hds) (hs.map (clQ K i))) ∧ ExmQ K cls hs ∧
    (a == ("__debug__" : Str)) = false ∧ (a == ("__classdict__" : Str)) = false ∧ (∀ env : Env, swapsWith (.Call (.Name a p1) [] [] p2) none p3.line env = pure false)
theorem outQ_of {P : Program} {w : World} {K : PySem.W.Frag} {mg : Str → Option Value} {base : Heap} {x a : Str} {st : Stmt} {cls : List Str} {hs : List Hq} {fin : Option Str} {Ng : List Str} {i j : Nat} {h0 : ExceptHandler} {hds : List ExceptHandler} {p1 p2 p3 p4 p5 p8 : Pos} (d : HasD K mg x st)
    (body : defBody st = bodyQ a p1 p2 p3 p4 p5 p8 j (h0 :: hds) fin) (S : FnScope Ng [a] (defScope st)) (bn : ∀ (f : Addr) (fd : FuncData), FunD K x x (defArgs st) (defBody st) (defScope st) [] [] f fd → Binds K fd [a] [])
    (h1 : Ng[0]? = some a) (h2 : Vis (defScope st) a) (h3 : i < Ng.length) (mx : ∀ (g : Addr) (A : Around) (outer : List Env) (cdg : Value) (s : Shared) (H : Hp), A.guards = some [] → A.units + 100 < cLine → MixOk (cxOf C8.CX0 P w K mg base Ng x (defScope st) g cdg A outer s H C8.E0).nox (h0 :: hds) (hs.map (clQ K i))) (em : ExmQ K cls hs)
    (h4 : (a == ("__debug__" : Str)) = false := by decide) (h5 : (a == ("__classdict__" : Str)) = false := by decide) (h6 : ∀ env : Env, swapsWith (.Call (.Name a p1) [] [] p2) none p3.line env = pure false := by intros; rfl) : OutQ P w K mg base x cls hs fin := by
  obtain ⟨f, fd, D, gm⟩ := d
  have D' := D
  rw [body] at D'
  exact ⟨a, defArgs st, defScope st, fd, f, h0, hds, Ng, i, j, p1, p2, p3, p4, p5, p8, D', gm, bn f fd D, S, h1, h2, h3, mx f, em, h4, h5, h6⟩
section
variable {X : Cx} {T : List (Addr × Str)} {E : XK} {k : Nat}
theorem je_outQ {x y : Str} {cls : List Str} {hs : List Hq} {kb : Nat} {params : Arguments} {body : Expr} {scope : Scope} {w : W D} {p lpos pos : Pos} (gd : X.A.guards = some []) (B : Bd X E k) (O : OutQ X.prog X.w X.K X.mg X.base x cls hs none) (LT : LamT X.K X.mg X.base T y)
    (hbody : ∀ (A : Around) (outer : List Env) (s : Shared) (H : Hp) (E' : XK) (f c' : Addr), Bd (lamCx X A outer s H E' scope f c') E' kb → JE T (lamCx X A outer s H E' scope f c') E' body w)
    (hq : X.env.qual ++ "<lambda>" = lamNm y := by rfl) (hcode : X.env.code = .ref (He.codeOf X.K (y, none)) := by rfl) (Ls : LamS X.env.scope scope := by exact lamS_by (by rfl))
    (hk : kb + 2 ≤ k := by decide) (hdef : defaultsOf params X.env = ([], []) := by rfl)
    (hbind : ∀ (q : Str) (cl : List (Str × Addr)) (pm cv ctv : Value), bindArgs (PySem.W.kla_fn "<lambda>" q params body scope cl pm cv ctv) ⟨[], []⟩ = pure [] := by intros; rfl) (hg : Gl X x := by rfl) (hdb : (x == ("__debug__" : Str)) = false := by decide) :
    JE T X E (.Call (.Name x p) [.Lambda params body scope lpos] [] pos) (wOutQ cls hs w) := by
  obtain ⟨a, pg, sg, fd, g, h0, hds, Ng, i, j, p1, p2, p3, p4, p5, p8, Dg, hm, hb, Sg, hNg, hva, hi, mx, em, h4, h5, h6⟩ := O.ex
  obtain ⟨oc, od, dV, kV, doc, pm, an, cdv, ct, osl, rfl, lk, hcg, _, _⟩ := Dg.ex
  have hN0 : ∀ f : Addr, (L2.start Ng [V.ref f])[0]? = some (some (V.ref f)) := fun f => rfl
  have hu : X.A.units + 100 < cLine := by have := B.room.un; omega
  refine peI (pe_lamcall (k := kb) (t := fun E' => lift X.K T (rE X.K) E' w) hg hm Dg.kp lk hcg hb Sg hNg hva (out_gives Sg.nd hN0 (fun s H => mx X.A X.stack cdv s H gd hu)) LT.tb hcode (by rw [hq]; exact LT.mem) (fun p hp e => by rw [hq]; exact LT.uni p hp e) (B.room.mono hk) Ls hdef hbind (fun A outer s H E' f c' hr => ?_) hdb h4 h5) fun σ H Q ⟨cc, wd, env, P1, Ex, r, h, xo, kk⟩ => ?_
  · exact hbody A outer s H E' f c' ⟨hr, passes_call (takes_of rfl rfl rfl rfl) fun _ _ _ _ h => h, passes_of rfl, rfl, B.nd⟩
  · refine ⟨r.good.tab, fun H1 eN t1 z => ?_⟩
    have g1 : Good T wd H1 := r.good.extN eN t1 z
    have r1 : Rel X.K T cc wd env σ H1 := r.go (Ord.refl _ _) g1 (Keep.extN eN)
    refine ⟨⟨wd, H1, []⟩, wd, dOnly env, _, _, r1.rebase, h, fun x hx cl dd wd' H' o' g' k' xr τ hl => ?_, fun d env' hd v wd' H' le r' rp => ?_⟩
    · exact mix_outQ hx.1 xr g' hi (fun d hp v wd4 H4 o4 g4 k4 rp4 => kk d env hp v wd4 H4 (o'.trans o4 k').le (r1.go (o'.trans o4 k') g4 (k'.trans o' k4)) rp4) hl em hx.2
    · exact kk d env hd v wd' H' le (r1.go r'.ord r'.good r'.keep) rp
end
end Pd

namespace Tp
open PySem PySem.Spec PyProof.Rows L2 LamX Pd
open Qt (To Tr madeF Lo neg apart)
open Ts (mxd poss tri rowI dset subs gtv)
open Tt (Sv Sc trD rwD mdR Gd Nl)
abbrev F_L_cast := Ts.F_L_cast
abbrev F_L_pick := Pd.F_pick
def shortD : D → Bool
  | .tup ys => decide (ys.length ≤ 60) && ys.all fun y => match y with
    | .tup zs => decide (zs.length ≤ 60)
    | _ => true
  | _ => true
def oddD : D → Bool
  | .dic _ => true
  | x => plain 57 x && shortD x
def rs (ns : List Int) : Prop := ns ≠ [] ∧ ns.length ≤ 7 ∧ ∀ n ∈ ns, 0 ≤ n ∧ n ≤ 1000
def F_L_any_wins : Fn := fun ds Q _ => ∃ (p : Addr) (n : Nat), ds = [.box p, .int (n : Int)] ∧ 1 ≤ n ∧ n ≤ 16 ∧ ∀ G, To (List.range n) G → (∀ i, i < n → (G i).Pairwise (· < ·)) → Q (.lst ((List.range n).map fun i => Li (Nl (G i))))
def F_L_odd_one : Fn := fun ds Q _ => ∃ p, ds = [.box p] ∧ ∀ x, oddD x = true → Q x
end Tp

namespace Tp
open PySem PySem.Spec PyProof.Rows L2 LamX Pd
def N_L_pick : List Str := ["_law_die", "_law_items"]
def w_L_pick : WS := (sRet (xBin fIdx (wVar 1) (wCall F_L_cast (wCons (wVar 0) (wCons (w1 dLen (wVar 1)) wNil)))))
def N_L_any_wins : List Str := ["_law_die", "_law_many", "_law_beaten", "_law_one", "_law_other", "_law_player", "_law_row", "*"]
def w_L_any_wins : WS := (sSeq (sSetOwn 2 (wComp (wRng1 (wVar 1)) (gNm 5) (W.ret true) (wCell 7 (wSz wNil)) [5])) (sSeq (sFor (wRng1 (wVar 1)) (gNm 3) (sFor (wRng2 (xBin fAdd (wVar 3) (W.ret (.int 1))) (wVar 1)) (gNm 4) (sIf (wTest (xBin fEq (wCall F_L_cast (wCons (wVar 0) (wCons (W.ret (.int 2)) wNil))) (W.ret (.int 0)))) (sDrop (wAppendC 7 (wIxOwn 2 (wVar 3)) (wVar 4))) (sDrop (wAppendC 7 (wIxOwn 2 (wVar 4)) (wVar 3)))))) (sRet (wLst (wComp (wItems (wFrz 2)) (gNm 6) (W.ret true) (wLst (wSort false (wCelB 7 (wVar 6)))) [6])))))
def N_L_odd_one : List Str := ["_law_die", "_law_some"]
def w_L_odd_one : WS := (sSeq (sSet 1 (wLst (wSz (wCons (W.ret .non) (wCons (W.ret (.int 0)) (wCons (W.ret (.int 1)) (wCons (W.ret (.int 7)) (wCons (wNeg (W.ret (.int 1))) (wCons (W.ret (.bl true)) (wCons (W.ret (.bl false)) (wCons (W.ret (.str "")) (wCons (W.ret (.str "a")) (wCons (W.ret (.str "made")) (wCons (W.ret (.str "bar")) (wCons (wTup wNil) (wCons (wTup (wCons (W.ret (.int 0)) wNil)) (wCons (wTup (wCons (W.ret (.int 1)) (wCons (W.ret (.int 0)) wNil))) (wCons (wLst (wSz (wCons (W.ret (.int 0)) wNil))) (wCons (W.ret (.dic [])) (wCons (wTup (wCons (W.ret (.int 1)) (wCons (W.ret (.int 1)) (wCons (W.ret (.int 1)) wNil)))) (wCons (wTup (wCons (wTup (wCons (W.ret (.int 1)) wNil)) (wCons (wTup (wCons (W.ret (.int 2)) wNil)) (wCons (wTup (wCons (W.ret (.int 0)) wNil)) wNil)))) wNil))))))))))))))))))))) (sRet (wCall F_L_pick (wCons (wVar 0) (wCons (xBin fAdd (wVar 1) (wLst (wSz (wCons (xBin fPow (W.ret (.int 10)) (W.ret (.int 29))) (wCons (wTup (wCons (W.ret .non) wNil)) (wCons (wTup (wCons (W.ret (.str "bar")) (wCons (wTup (wCons (W.ret (.int 0)) wNil)) wNil))) (wCons (wTup (wCons (W.ret (.str "made")) (wCons (wTup wNil) wNil))) (wCons (wTup (wCons (W.ret (.bl true)) wNil)) (wCons (wTup (wCons (wNeg (W.ret (.int 1))) (wCons (W.ret (.int 1)) wNil))) (wCons (W.ret (.str "web")) (wCons (wTup (wCons (W.ret (.int 0)) (wCons (W.ret (.int 0)) wNil))) wNil))))))))))) wNil)))))
end Tp

namespace Tp
open PySem PySem.Spec PyProof.Rows L2 LamX Pd
open Qt (To Tr madeF)
open Ts (mxd poss tri rowI dset subs gtv idx_items idx_ti upTo0 items_or subs_lt log_lt)
open Tt (Sv Sc trD rwD mdR Gd Nl)
theorem pure_L_pick (ds : List D) (Q : D → Prop) (Ex : Xc → Prop) (h : F_L_pick ds Q Ex) : w_L_pick (dEnds Q Ex) (startE N_L_pick ds) := by
  obtain ⟨p, x, xs, rfl, hx, ne, hl, q⟩ := h
  have l0 : 0 < xs.length := List.length_pos_iff.mpr ne
  have key : ∀ r : Int, 0 ≤ r → r < xs.length → ∃ z, dIdx x (.int r) = some z ∧ Q z := fun r h0 h1 => by
    have hr : r.toNat < xs.length := by omega
    exact ⟨_, idx_items hx h0 (List.getElem?_eq_getElem hr), q _ (List.getElem_mem hr)⟩
  rcases items_or hx with rfl | rfl
  · exact ⟨p, _, rfl, by omega, by omega, key⟩
  · exact ⟨p, _, rfl, by omega, by omega, key⟩
theorem len_L_pick (ds : List D) (Q : D → Prop) (Ex : Xc → Prop) (h : F_L_pick ds Q Ex) : ds.length = 2 := by
  obtain ⟨p, x, xs, rfl, _⟩ := h
  rfl

end Tp

namespace Tp
open PySem PySem.Spec PyProof.Rows L2 LamX Pd
open Qt (To Tr madeF)
open Tt (Sv Sc trD rwD mdR Gd Nl Inj cxA rwA addC)
structure Ps (n k j : Nat) (C : Nat → List Nat) : Prop where
  nd : ∀ i, i < n → (C i).Nodup
  lt : ∀ i, i < n → ∀ x ∈ C i, x < n ∧ x ≠ i
  did : ∀ a b, a < b → b < n → (a < k ∨ a = k ∧ b < j) → (b ∈ C a ↔ a ∉ C b)
  not : ∀ a b, a < b → b < n → ¬ (a < k ∨ a = k ∧ b < j) → b ∉ C a ∧ a ∉ C b
theorem ps_zero (n : Nat) : Ps n 0 1 fun _ => [] := ⟨fun i _ => List.nodup_nil, fun i _ x hx => (nomatch hx), fun a b ab bn h => by omega, fun a b ab bn h => ⟨by simp, by simp⟩⟩
theorem ps_row {n k : Nat} {C : Nat → List Nat} (P : Ps n k n C) : Ps n (k + 1) (k + 2) C :=
  ⟨P.nd, P.lt, fun a b ab bn h => P.did a b ab bn (by omega), fun a b ab bn h => P.not a b ab bn (by omega)⟩
theorem add_mem {C : Nat → List Nat} {i x j y : Nat} : y ∈ addC C i [x] j ↔ y ∈ C j ∨ j = i ∧ y = x := by
  unfold addC
  by_cases c : j = i
  · rw [if_pos c]
    simp [c]
  · rw [if_neg c]
    simp [c]
theorem add_nd {n : Nat} {C : Nat → List Nat} {i x : Nat} (nd : ∀ i, i < n → (C i).Nodup) (h : x ∉ C i) : ∀ j, j < n → (addC C i [x] j).Nodup := fun j hj => by
  unfold addC
  by_cases c : j = i
  · rw [if_pos c]
    subst c
    refine List.nodup_append.mpr ⟨nd j hj, by simp, fun a ha b hb => ?_⟩
    have : b = x := by simpa using hb
    subst this
    exact fun e => h (e ▸ ha)
  · rw [if_neg c]
    exact nd j hj
theorem ps_up {n k j : Nat} {C : Nat → List Nat} (P : Ps n k j C) (kj : k < j) (jn : j < n) : Ps n k (j + 1) (addC C k [j]) := by
  obtain ⟨n1, n2⟩ := P.not k j kj jn (by omega)
  refine ⟨add_nd P.nd n1, fun i hi x hx => ?_, fun a b ab bn h => ?_, fun a b ab bn h => ?_⟩
  · rcases add_mem.mp hx with hx | ⟨e1, e2⟩
    · exact P.lt i hi x hx
    · omega
  · rw [add_mem, add_mem]
    by_cases c : a = k ∧ b = j
    · obtain ⟨rfl, rfl⟩ := c
      have : ¬ b = a := by omega
      simp [n1, n2, this]
    · have h1 := P.did a b ab bn (by omega)
      have c1 : ¬ (a = k ∧ b = j) := c
      have c2 : ¬ (b = k ∧ a = j) := by omega
      rw [h1]
      simp only [c1, c2, or_false]
  · obtain ⟨h1, h2⟩ := P.not a b ab bn (by omega)
    refine ⟨fun hx => ?_, fun hx => ?_⟩
    · rcases add_mem.mp hx with hx | hx
      · exact h1 hx
      · omega
    · rcases add_mem.mp hx with hx | hx
      · exact h2 hx
      · omega
theorem ps_dn {n k j : Nat} {C : Nat → List Nat} (P : Ps n k j C) (kj : k < j) (jn : j < n) : Ps n k (j + 1) (addC C j [k]) := by
  obtain ⟨n1, n2⟩ := P.not k j kj jn (by omega)
  refine ⟨add_nd P.nd n2, fun i hi x hx => ?_, fun a b ab bn h => ?_, fun a b ab bn h => ?_⟩
  · rcases add_mem.mp hx with hx | ⟨e1, e2⟩
    · exact P.lt i hi x hx
    · omega
  · rw [add_mem, add_mem]
    by_cases c : a = k ∧ b = j
    · obtain ⟨rfl, rfl⟩ := c
      have : ¬ a = b := by omega
      simp [n1, n2, this]
    · have h1 := P.did a b ab bn (by omega)
      have c1 : ¬ (a = j ∧ b = k) := by omega
      have c2 : ¬ (b = j ∧ a = k) := by omega
      rw [h1]
      simp only [c1, c2, or_false]
  · obtain ⟨h1, h2⟩ := P.not a b ab bn (by omega)
    refine ⟨fun hx => ?_, fun hx => ?_⟩
    · rcases add_mem.mp hx with hx | hx
      · exact h1 hx
      · omega
    · rcases add_mem.mp hx with hx | hx
      · exact h2 hx
      · omega
theorem ps_to {n k j : Nat} {C : Nat → List Nat} (P : Ps n k j C) (h : n ≤ k) : To (List.range n) C := by
  refine ⟨fun i hi => P.nd i (List.mem_range.mp hi), fun i hi x hx => ?_, fun a ha b hb ab => ?_⟩
  · have := P.lt i (List.mem_range.mp hi) x hx
    exact ⟨List.mem_range.mpr this.1, this.2⟩
  · have ha := List.mem_range.mp ha
    have hb := List.mem_range.mp hb
    rcases Nat.lt_or_gt_of_ne ab with c | c
    · exact P.did a b c hb (by omega)
    · have := P.did b a c ha (by omega)
      by_cases d : b ∈ C a
      · exact ⟨fun _ e => (this.mp e) d, fun _ => d⟩
      · exact ⟨fun e => absurd e d, fun e => absurd (this.mpr d) e⟩
theorem ps_len {n k j : Nat} {C : Nat → List Nat} (P : Ps n k j C) {i : Nat} (hi : i < n) : (C i).length ≤ n := Tt.sub_len (P.nd i hi) fun x hx => (P.lt i hi x hx).1
theorem to_perm {n : Nat} {C G : Nat → List Nat} (T : To (List.range n) C) (pm : ∀ i, (G i).Perm (C i)) : To (List.range n) G := by
  refine ⟨fun i hi => (pm i).nodup_iff.mpr (T.nd i hi), fun i hi j hj => T.lt i hi j ((pm i).mem_iff.mp hj), fun i hi j hj ij => ?_⟩
  rw [(pm i).mem_iff, (pm j).mem_iff]
  exact T.one i hi j hj ij
theorem pure_L_any_wins (ds : List D) (Q : D → Prop) (Ex : Xc → Prop) (h : F_L_any_wins ds Q Ex) : w_L_any_wins (dEnds Q Ex) (startE N_L_any_wins ds) := by
  obtain ⟨p, n, rfl, n1, n16, q⟩ := h
  refine ⟨by omega, by omega, ?_⟩
  show compW _ _ _ _ _ (Pd.upTo 0 (n : Int)) [_, _, _, _, _, _, _, _] _
  refine compW_ind (fun rest env acc => ∃ (as : List Addr) (s5 c7 : Option Sl), env = [some (.d (.box p)), some (.d (.int (n : Int))), none, none, none, s5, none, c7] ∧ acc = as.map (fun a => D.raw (.ref a)) ∧ celsOf c7 = as.map (fun a => (a, ([] : List D))) ∧ as.length + rest.length = n ∧ as.Nodup) ?_ ?_ _ _ _ ⟨[], none, none, rfl, rfl, rfl, by rw [upTo_len']; simp, List.nodup_nil⟩
  · rintro x rest env acc ⟨as, s5, c7, rfl, rfl, hc, hl, hz⟩ ih
    refine br_tt rfl ⟨by decide, fun a ha => ih _ _ ⟨as ++ [a], _, _, rfl, ?_, ?_, ?_, ?_⟩⟩
    · rw [List.map_append]
      rfl
    · show celsOf c7 ++ [(a, [])] = _
      rw [hc, List.map_append]
      rfl
    · rw [List.length_append]
      simp at hl ⊢
      omega
    · have hm : a ∉ (celsOf c7).map (·.1) := ha
      rw [hc, List.map_map] at hm
      have hm : a ∉ as := fun z => hm (List.mem_map.mpr ⟨a, z, rfl⟩)
      refine List.nodup_append.mpr ⟨hz, by simp, fun b hb c hc' => ?_⟩
      have : c = a := by simpa using hc'
      intro e
      exact hm (by rw [← this, ← e]; exact hb)
  · rintro env acc ⟨as, s5, c7, rfl, rfl, hc, hl, hz⟩
    have hl : as.length = n := by simpa using hl
    obtain ⟨A, hA⟩ : ∃ A : Nat → Addr, A = fun i => as.getD i 0 := ⟨_, rfl⟩
    have I : Inj n A := by
      rw [hA]
      exact Tt.as_inj hl hz
    have hr : as.map (fun a => D.raw (.ref a)) = rwA n A := by
      rw [hA, Tt.as_map hl]
    have hc : celsOf c7 = cxA n A fun _ => [] := by
      rw [hc, hA, Tt.as_map hl]
      rfl
    rw [hr]
    clear hr hA hl hz
    refine ⟨by omega, by omega, ?_⟩
    show forW _ _ _ (Pd.upTo 0 (n : Int)) [_, _, _, _, _, _, _, _]
    refine forW_ind (fun rest env => ∃ (k : Nat) (C : Nat → List Nat) (s3 s4 s5 s6 c7 : Option Sl), rest = Pd.upTo (k : Int) (n : Int) ∧ Ps n k (k + 1) C ∧ celsOf c7 = cxA n A C ∧ env = [some (.d (.box p)), some (.d (.int (n : Int))), some (.own (rwA n A)), s3, s4, s5, s6, c7]) ?_ ?_ _ _ ⟨0, fun _ => [], none, none, _, none, c7, rfl, ps_zero n, hc, rfl⟩
    · rintro x rest env ⟨k, C, s3, s4, s5, s6, c7, er, P, hc, rfl⟩ ih
      obtain ⟨hk, rfl, rfl⟩ := Ts.upTo_in er
      refine ⟨⟨by omega, by omega, by omega, by omega⟩, ?_⟩
      refine forW_ind (fun rest env => ∃ (j : Nat) (C : Nat → List Nat) (s4 s5 s6 c7 : Option Sl), rest = Pd.upTo (j : Int) (n : Int) ∧ k + 1 ≤ j ∧ j ≤ n ∧ Ps n k j C ∧ celsOf c7 = cxA n A C ∧ env = [some (.d (.box p)), some (.d (.int (n : Int))), some (.own (rwA n A)), some (.d (.int (k : Int))), s4, s5, s6, c7]) ?_ ?_ _ _ ⟨k + 1, C, s4, s5, s6, c7, by rw [show (((k + 1 : Nat) : Int)) = (k : Int) + 1 by omega], Nat.le_refl _, by omega, P, hc, rfl⟩
      · rintro x rest env ⟨j, C, s4, s5, s6, c7, er, hj, jn, P, hc, rfl⟩ ih2
        obtain ⟨hlt, rfl, rfl⟩ := Ts.upTo_in er
        refine ⟨p, 2, rfl, by decide, by decide, fun r h0 h1 => ⟨rfl, br_of (fun h => ?_) (fun h => ?_)⟩⟩
        · have mm : (A k, (Nl (C k)).map D.int) ∈ celsOf c7 := by
            rw [hc]
            exact Tt.cx_mem (C := C) (by omega)
          refine ⟨_, Tt.idx_rwA (by omega), _, mm, _, mm, ?_, ?_⟩
          · rw [List.length_map, List.length_map]
            have := ps_len P (i := k) (by omega)
            omega
          · refine ih2 _ ⟨j + 1, addC C k [j], some (.d (.int (j : Int))), s5, s6, some (.cels (celSet (celsOf c7) (A k) ((Nl (C k)).map D.int ++ (Nl [j]).map D.int))), by rw [show (((j + 1 : Nat) : Int)) = (j : Int) + 1 by omega], by omega, by omega, ps_up P (by omega) (by omega), ?_, rfl⟩
            show celSet (celsOf c7) (A k) _ = _
            rw [hc, Tt.cx_set I C (by omega) [j]]
        · have mm : (A j, (Nl (C j)).map D.int) ∈ celsOf c7 := by
            rw [hc]
            exact Tt.cx_mem (C := C) (by omega)
          refine ⟨_, Tt.idx_rwA (by omega), _, mm, _, mm, ?_, ?_⟩
          · rw [List.length_map, List.length_map]
            have := ps_len P (i := j) (by omega)
            omega
          · refine ih2 _ ⟨j + 1, addC C j [k], some (.d (.int (j : Int))), s5, s6, some (.cels (celSet (celsOf c7) (A j) ((Nl (C j)).map D.int ++ (Nl [k]).map D.int))), by rw [show (((j + 1 : Nat) : Int)) = (j : Int) + 1 by omega], by omega, by omega, ps_dn P (by omega) (by omega), ?_, rfl⟩
            show celSet (celsOf c7) (A j) _ = _
            rw [hc, Tt.cx_set I C (by omega) [k]]
      · rintro env ⟨j, C, s4, s5, s6, c7, er, hj, jn, P, hc, rfl⟩
        have := Ts.upTo_out er
        have ej : j = n := by omega
        subst ej
        exact ih _ ⟨k + 1, C, _, _, _, _, _, by rw [show (((k + 1 : Nat) : Int)) = (k : Int) + 1 by omega], ps_row P, hc, rfl⟩
    · rintro env ⟨k, C, s3, s4, s5, s6, c7, er, P, hc, rfl⟩
      have hk := Ts.upTo_out er
      show compW _ _ _ _ _ (List.map (fun i => D.raw (.ref (A i))) (List.range n)) [_, _, _, _, _, _, _, _] _
      refine comp_all (v := 6) (fun x => [some (.d (.box p)), some (.d (.int (n : Int))), some (.d (.lst (rwA n A))), s3, s4, s5, x, c7]) (fun i => D.raw (.ref (A i))) (fun i => Li (Nl (Qh.isort Tt.leN (C i)))) (List.range n) s6 [] (fun _ _ => rfl) (fun i hi K ex kk => ?_) fun z => ?_
      · have hi := List.mem_range.mp hi
        refine ⟨(Nl (C i)).map D.int, ?_, _, rfl, srt_ints _, ?_⟩
        · show _ ∈ celsOf c7
          rw [hc]
          exact Tt.cx_mem (C := C) hi
        · rw [ms_up, Tt.up_cast]
          exact kk
      · exact q (fun i => Qh.isort Tt.leN (C i)) (to_perm (ps_to P (by omega)) fun i => Qh.isort_perm _ _) fun i hi => Tt.isort_asc (P.nd i hi)
theorem len_L_any_wins (ds : List D) (Q : D → Prop) (Ex : Xc → Prop) (h : F_L_any_wins ds Q Ex) : ds.length = 2 := by
  obtain ⟨p, n, rfl, _⟩ := h
  rfl
end Tp

namespace Tp
open PySem PySem.Spec PyProof.Rows L2 LamX Pd
open Qt (To Tr madeF)
open Ts (mxd poss tri rowI dset subs)
open Tt (Sv Sc trD rwD mdR Gd Nl)
theorem idx_li {ns : List Int} {r : Int} (h0 : 0 ≤ r) (h : r < ns.length) : dIdx (Li ns) (.int r) = some (.int (Ts.gtv ns r.toNat)) := by
  refine Ts.idx_items (x := Li ns) rfl h0 ?_
  have hr : r.toNat < ns.length := by omega
  rw [List.getElem?_map, List.getElem?_eq_getElem hr]
  unfold Ts.gtv
  rw [List.getD_eq_getElem?_getD, List.getElem?_eq_getElem hr]
  rfl
end Tp

namespace Tp
open PySem PySem.Spec PyProof.Rows L2 LamX Pd
open Qt (To Tr madeF)
open Ts (mxd poss tri rowI dset subs dfs df)
open Tt (Sv Sc trD rwD mdR Gd Nl)
theorem asInts_map : ∀ ns : List Int, asInts (ns.map D.int) = some ns
  | [] => rfl
  | n :: ns => by
    show (asInts (ns.map D.int)).map (n :: ·) = _
    rw [asInts_map ns]
    rfl
end Tp

namespace Tp
open PySem PySem.Spec PyProof.Rows L2 LamX Pd
open Qt (To Tr madeF)
open Ts (mxd poss tri rowI dset subs dfs df)
open Tt (Sv Sc trD rwD mdR Gd Nl)
theorem odds_ok : ∀ y ∈ ([D.non, .int 0, .int 1, .int 7, .int (-1), .bl true, .bl false, .str "", .str "a", .str "made", .str "bar", .tup [], .tup [.int 0], .tup [.int 1, .int 0], .lst [.int 0], .dic [], .tup [.int 1, .int 1, .int 1], .tup [.tup [.int 1], .tup [.int 2], .tup [.int 0]]] ++
    [.int ((10 : Int) ^ (29 : Int).toNat), .tup [.non], .tup [.str "bar", .tup [.int 0]], .tup [.str "made", .tup []], .tup [.bl true], .tup [.int (-1), .int 1], .str "web", .tup [.int 0, .int 0]] : List D), oddD y = true := List.all_eq_true.mp (by decide +kernel)
theorem pure_L_odd_one (ds : List D) (Q : D → Prop) (Ex : Xc → Prop) (h : F_L_odd_one ds Q Ex) : w_L_odd_one (dEnds Q Ex) (startE N_L_odd_one ds) := by
  obtain ⟨p, rfl, q⟩ := h
  repeat refine ⟨Nat.le_of_ble_eq_true rfl, ?_⟩
  refine ⟨⟨by decide, by decide +kernel⟩, ?_⟩
  repeat refine ⟨Nat.le_of_ble_eq_true rfl, ?_⟩
  exact ⟨p, _, _, rfl, rfl, by simp, Nat.le_of_ble_eq_true rfl, fun y hy => q y (odds_ok y hy)⟩
theorem len_L_odd_one (ds : List D) (Q : D → Prop) (Ex : Xc → Prop) (h : F_L_odd_one ds Q Ex) : ds.length = 1 := by
  obtain ⟨p, rfl, _⟩ := h
  rfl
end Tp

namespace Zn
open PySem PySem.Spec PyProof.Rows L2
def SqK (K : PySem.W.Frag) (t : Bool) (H : Hp) (a : Addr) (xs : List V) : Prop := match t with
  | false => SqL K H a xs
  | true => SqT K H a xs
def ItK (h : Heap) (t : Bool) (it c : Nat) (k : Nat) : Prop := match t with
  | false => h.IsListIter it c k
  | true => h.IsTupleIter it c k
def CoK (h : Heap) (t : Bool) (c : Nat) (xs : Array Value) : Prop := match t with
  | false => h.IsList c xs
  | true => h.IsTuple c xs
section
variable {X : Cx} {pins : List (Addr × Obj)} {σ : L2.St} {H : Hp} {s : Shared}
theorem held_k {t : Bool} {a : Addr} {xs : List V} (I : Inv X pins σ H s) (hq : SqK X.K t H a xs) : ∃ its : List Value, Vals xs its ∧ CoK s.heap t a its.toArray := by
  cases t with
  | false =>
    obtain ⟨its, rv, p, _⟩ := I.list hq
    exact ⟨its, rv, p.isList⟩
  | true =>
    obtain ⟨its, rv, p, _⟩ := I.tuple hq
    exact ⟨its, rv, p⟩
theorem sqK_inj {t : Bool} {a : Addr} {xs ys : List V} (I : Inv X pins σ H s) (h : SqK X.K t H a xs) (h' : SqK X.K t H a ys) : xs = ys := by
  cases t with
  | false => exact I.list_inj h h'
  | true => exact I.tuple_inj h h'
end
theorem srcIt_k {h : Heap} {t : Bool} {it c k : Nat} {xs : Array Value} (i : ItK h t it c k) (co : CoK h t c xs) : SrcIt h it c k xs := by
  cases t with
  | false => exact .inl ⟨i, co⟩
  | true => exact .inr ⟨i, co⟩
theorem itK_src {h : Heap} {t : Bool} {it c k : Nat} {xs ys : Array Value} (s : SrcIt h it c k xs) (co : CoK h t c ys) : ItK h t it c k := by
  cases t with
  | false =>
    rcases s with ⟨a, _⟩ | ⟨_, ⟨o, e, ec, _⟩⟩
    · exact a
    · obtain ⟨o', e', ec', _⟩ := co
      rw [e] at e'
      cases e'
      rw [ec] at ec'
      exact absurd ec' (by decide)
  | true =>
    rcases s with ⟨_, ⟨o, e, ec, _⟩⟩ | ⟨a, _⟩
    · obtain ⟨o', e', ec', _⟩ := co
      rw [e] at e'
      cases e'
      rw [ec] at ec'
      exact absurd ec' (by decide)
    · exact a
theorem itK_obj {h : Heap} {t : Bool} {it c k : Nat} (i : ItK h t it c k) : ∃ o, h.get? it = some o ∧ ∀ v, o.data ≠ .cell v := by
  cases t with
  | false =>
    obtain ⟨o, e, _, d⟩ := i
    exact ⟨o, e, fun v z => by rw [d] at z; cases z⟩
  | true =>
    obtain ⟨o, e, _, d⟩ := i
    exact ⟨o, e, fun v z => by rw [d] at z; cases z⟩
theorem itK_keep {h h' : Heap} {t : Bool} {it c k : Nat} (i : ItK h t it c k) (e : ∀ o, h.get? it = some o → h'.get? it = some o) : ItK h' t it c k := by
  cases t with
  | false => exact Heap.IsListIter.at i e
  | true => exact Heap.IsTupleIter.at i e
end Zn
namespace Zn
open PySem PySem.Spec PyProof.Rows L2
theorem src_k {h : Heap} {t : Bool} {c : Nat} {xs : Array Value} (co : CoK h t c xs) : SrcV h c xs := by
  cases t with
  | false => exact .inl co
  | true => exact .inr co
theorem co_lt {h : Heap} {t : Bool} {c : Nat} {xs : Array Value} (co : CoK h t c xs) : c < h.objs.size := by
  rcases src_k co with ⟨o, e, _⟩ | ⟨o, e, _⟩
  · exact Heap.lt_size e
  · exact Heap.lt_size e
end Zn
namespace Pd
open PySem PySem.Spec PyProof.Rows L2 LamX Zn
section
variable {X : Cx} {T : List (Addr × Str)} {E : XK} {k : Nat}
theorem sq_rep {K : PySem.W.Frag} {wd : Wd} {H : Hp} (g : Good T wd H) {v : V} {d : D} {ds : List D} (e : dItems d = some ds) (r : Rep K wd v d) : ∃ (a : Addr) (t : Bool) (vs : List V), v = .ref a ∧ (∀ H', Sub wd.M H' → SqK K t H' a vs) ∧ Reps K wd vs ds ∧ vs.length ≤ sizeLine := by
  cases d with
  | lst xs =>
    cases e
    cases r with
    | lst h rs => exact ⟨_, false, _, rfl, fun H' z => .inl (.inl (z _ _ h)), rs, (g.ntb _ _ h).2⟩
  | tup xs =>
    cases e
    cases r with
    | tup h rs => exact ⟨_, true, _, rfl, fun H' z => sqT_sub K z h, rs, siz_sqT g h⟩
  | _ => cases e
end
end Pd

namespace Zn
open PySem
section
variable {prog : Program} {w : World} {A : Around} {E : Value → Shared → Prop} {s : Shared}
theorem free_itemG {b z : Nat} {cs : List (Nat × Array Value)} {os : Array Value} {k : Nat} {Q : Value → Shared → Prop} {f0 : Value} {f : Bool} (hz : IsZ s.heap z (b + cs.length) (b + cs.length + 1) f0 f) (hfree : ∀ Q : Bool → Shared → Prop, Q true s → wpAny (model prog w) A (Builtin.SmallTypes.ownedTupleIsFree (.ref z)) Q E s)
    (hzb : b + cs.length + 1 < z) (hTI : IsTupN s.heap (b + cs.length) (itsN b cs.length)) (hTO : IsTupN s.heap (b + cs.length + 1) os) (hos : os.size = cs.length) (hs : Srcs s.heap b cs k 0) (hn : cs ≠ []) (hlt : ∀ q ∈ cs, k < q.2.size) (hsz : cs.length ≤ sizeLine)
    (hQ : ∀ h', IsZ h' z (b + cs.length) (b + cs.length + 1) (rawInt s.heap.objs.size) false → Srcs h' b cs (k + 1) 0 → IsTupN h' s.heap.objs.size (cs.map fun q => q.2[k]?.getD .none).toArray → IsTupN h' (b + cs.length + 1) (cs.map fun q => q.2[k]?.getD .none).toArray → h'.objs.size = s.heap.objs.size + 1 →
      (∀ c o, c ≠ z → c ≠ b + cs.length + 1 → (c < b ∨ b + cs.length ≤ c) → s.heap.get? c = some o → h'.get? c = some o) → Q (.ref s.heap.objs.size) { s with heap := h' }) :
    wpAny (model prog w) A (Builtin.«zip.__next__» ⟨[.ref z], []⟩) (fun fin s' => ∃ v, fin = .done (.ret v) ∧ Q v s') E s := by
  have some_ : (itsN b cs.length).isEmpty = false := its_ne (b := b) (cs := cs) hn
  unfold Builtin.«zip.__next__»
  generalize free : Builtin.SmallTypes.ownedTupleIsFree = F
  generalize put : setField = S
  wp_walk using wpAny_seqItems hTI rfl
  subst free
  refine hfree _ ?_
  simp only [↓reduceIte]
  wp_walk
  subst put
  apply wpAny_setField_rec hz (by simp)
  intro g0 hz0 hs0
  replace hz0 : IsZ g0 z (b + cs.length) (b + cs.length + 1) .ellipsis f := hz0
  replace hs0 : Heap.SameBut z s.heap g0 := hs0
  have key : ∀ j, j < cs.length → ∃ c xs x, cs[j]? = some (c, xs) ∧ xs[k]? = some x ∧ c < b := fun j hj => by
    have e := List.getElem?_eq_getElem hj
    have l := hlt _ (List.getElem_mem hj)
    exact ⟨_, _, _, e, Array.getElem?_eq_getElem l, hs.lo j _ _ e⟩
  refine wpAny_bind (wpAny_forIn_list _ (fun rest st s' => ∃ (m : Nat) (h' : Heap), m ≤ cs.length ∧ rest = ((itsN b cs.length).toList.drop m).zipIdx m ∧ st = (none, ()) ∧ s' = { s with heap := h' } ∧ Srcs h' b cs k m ∧ IsZ h' z (b + cs.length) (b + cs.length + 1) .ellipsis f ∧ IsTupN h' (b + cs.length + 1) (upTO cs os k m) ∧ h'.objs.size = s.heap.objs.size ∧ ∀ c o, c ≠ z → c ≠ b + cs.length + 1 → (c < b ∨ b + cs.length ≤ c) → s.heap.get? c = some o → h'.get? c = some o) _ ?_ ?_ _ _ ?_)
  · rintro ⟨x, i⟩ rest st s' ⟨m, h', hm, er, rfl, rfl, hsr, hz', hT', hsz', hk⟩
    obtain ⟨rest', er1, ei, er2⟩ : ∃ rest', (itsN b cs.length).toList.drop m = x :: rest' ∧ i = m ∧ rest = rest'.zipIdx (m + 1) := by
      cases e : (itsN b cs.length).toList.drop m with
      | nil => rw [e] at er; cases er
      | cons y ys =>
        rw [e, List.zipIdx_cons] at er
        have := List.cons.inj er
        cases this.1
        exact ⟨ys, rfl, rfl, this.2⟩
    subst ei er2
    obtain ⟨hlt', rfl, rfl⟩ := its_cons er1.symm
    obtain ⟨c, xs, v, e1, e2, e3⟩ := key i hlt'
    refine wpAny_bind (wpAny_onRaise ?_)
    show wpAny _ _ (Builtin.SmallTypes.nextOf (.ref (b + i)) >>= _) _ _ _
    have hit := hsr.it i c xs e1
    rw [if_neg (Nat.lt_irrefl _)] at hit
    refine wpAny_bind (next_item (s := { s with heap := h' }) hit (by omega) e2 fun h2 hit2 sb => wpAny_pure ?_)
    have hT2 : IsTupN h2 (b + cs.length + 1) (upTO cs os k i) := sb.extBut _ _ (ne_ (by omega)) hT'
    refine wpAny_bind (wpAny_seqItems hT2 rfl ?_)
    have hus : (upTO cs os k i).size = cs.length := upTO_size hos hm
    refine wpAny_bind (wpAny_updateSeq (s := { s with heap := h2 }) hT2 rfl ?_ (by rw [hus]; exact hsz) (by rw [Array.size_setIfInBounds, hus]; omega))
    refine wpAny_bind (wpAny_letGo (wpAny_pure ?_))
    have e4 := Heap.get?_update_self (Obj.mapSeq (·.setIfInBounds i v)) hT2 rfl
    have sb2 : Heap.SameBut (b + cs.length + 1) h2 (h2.update (b + cs.length + 1) (Obj.mapSeq (·.setIfInBounds i v))) := Heap.SameBut.update ..
    refine ⟨i + 1, _, hlt', rfl, rfl, rfl, (hsr.step e1 hit2 sb).same fun a o hl q => sb2.extBut _ _ (ne_ (by omega)) q, sb2.extBut _ _ (ne_ (by omega)) (sb.extBut _ _ (ne_ (by omega)) hz'), ?_, by rw [sb2.1, sb.1]; exact hsz', fun c o h1 h2 h3 h4 => sb2.extBut _ _ (ne_ (by omega)) (sb.extBut _ _ (ne_ (by omega)) (hk c o h1 h2 h3 h4))⟩
    rw [← upTO_set e1 e2 (by omega)]
    simpa [Obj.mapSeq] using e4
  · rintro st s' ⟨m, h', hm, er, rfl, rfl, hsr, hz', hT', hsz', hk⟩
    have hme : m = cs.length := by
      refine its_nil (b := b) hm ?_
      cases e : (itsN b cs.length).toList.drop m with
      | nil => rfl
      | cons y ys => rw [e] at er; cases er
    subst hme
    rw [upTO_all hos] at hT'
    show wpAny _ _ (seqItems? _ >>= _) _ _ _
    refine wpAny_bind (wpAny_seqItems hT' rfl ?_)
    refine wpAny_bind (wpAny_newTuple ?_ (by simpa using hsz))
    have hzlt : z < h'.objs.size := Heap.lt_size hz'
    show wpAny _ _ (Builtin.SmallTypes.ownedTupleHandOut (.ref z) (.ref h'.objs.size) >>= _) _ _ _
    refine wpAny_bind ?_
    unfold Builtin.SmallTypes.ownedTupleHandOut
    have hz6 : IsZ (h'.push { cls := .type "tuple", data := .seq (cs.map fun q => q.2[k]?.getD Value.none).toArray }) z (b + cs.length) (b + cs.length + 1) .ellipsis f := Heap.get?_push_of_some _ hz'
    refine wpAny_bind (wpAny_setField_rec hz6 (by simp) fun h7 hz7 hs7 => ?_)
    replace hz7 : IsZ h7 z (b + cs.length) (b + cs.length + 1) (rawInt h'.objs.size) f := hz7
    refine wpAny_setField_rec hz7 (by simp) fun h8 hz8 hs8 => ?_
    replace hz8 : IsZ h8 z (b + cs.length) (b + cs.length + 1) (rawInt h'.objs.size) false := hz8
    replace hs7 : Heap.SameBut z (h'.push { cls := .type "tuple", data := .seq (cs.map fun q => q.2[k]?.getD Value.none).toArray }) h7 := hs7
    replace hs8 : Heap.SameBut z h7 h8 := hs8
    have up : ∀ c o, c ≠ z → h'.get? c = some o → h8.get? c = some o := fun c o c1 e => hs8.extBut _ _ c1 (hs7.extBut _ _ c1 (Heap.get?_push_of_some _ e))
    have hT8 : IsTupN h8 h'.objs.size (cs.map fun q => q.2[k]?.getD Value.none).toArray := hs8.extBut _ _ (Nat.ne_of_gt hzlt) (hs7.extBut _ _ (Nat.ne_of_gt hzlt) (Heap.get?_push_size _ rfl))
    have hz9 : h8.objs.size = h'.objs.size + 1 := by rw [hs8.1, hs7.1, Heap.size_push]
    refine wpAny_pure ⟨_, rfl, ?_⟩
    rw [hsz'] at hz8 hT8 hz9
    show Q (.ref h'.objs.size) { s with heap := h8 }
    rw [hsz']
    exact hQ h8 hz8 (hsr.all.same fun a o hl q => up a o (ne_ (by omega)) q) hT8 (up _ _ (ne_ (by omega)) hT') hz9 fun c o h1 h2 h3 h4 => up c o h1 (hk c o h1 h2 h3 h4)
  · exact ⟨0, g0, Nat.zero_le _, rfl, rfl, rfl, hs.same fun a o hl q => hs0.extBut _ _ (ne_ (by omega)) q, hz0, by rw [upTO_zero]; exact hs0.extBut _ _ (ne_ (by omega)) hTO, hs0.1, fun c o h1 _ _ h4 => hs0.extBut _ _ h1 h4⟩
theorem free_endG {b z : Nat} {cs : List (Nat × Array Value)} {os : Array Value} {k : Nat} {Q : Fin → Shared → Prop} (hh : A.handled = none) {f0 : Value} {f : Bool} (hz : IsZ s.heap z (b + cs.length) (b + cs.length + 1) f0 f) (hfree : ∀ Q : Bool → Shared → Prop, Q true s → wpAny (model prog w) A (Builtin.SmallTypes.ownedTupleIsFree (.ref z)) Q E s)
    (hzb : b + cs.length + 1 < z) (hTI : IsTupN s.heap (b + cs.length) (itsN b cs.length)) (hTO : IsTupN s.heap (b + cs.length + 1) os) (hos : os.size = cs.length) (hs : Srcs s.heap b cs k 0) (hend : ∃ q ∈ cs, q.2.size ≤ k) (hsz : cs.length ≤ sizeLine)
    (hE : ∀ h' e, (∀ c o, c ≠ z → c ≠ b + cs.length + 1 → (c < b ∨ b + cs.length ≤ c) → s.heap.get? c = some o → h'.get? c = some o) → (∃ o, h'.get? e = some o ∧ o.cls = .type "StopIteration") → E (.ref e) { s with heap := h' }) :
    wpAny (model prog w) A (Builtin.«zip.__next__» ⟨[.ref z], []⟩) Q E s := by
  have some_ : (itsN b cs.length).isEmpty = false := its_ne (b := b) (cs := cs) (fun e => by rw [e] at hend; obtain ⟨q, hq, _⟩ := hend; cases hq)
  unfold Builtin.«zip.__next__»
  generalize free : Builtin.SmallTypes.ownedTupleIsFree = F
  generalize put : setField = S
  wp_walk using wpAny_seqItems hTI rfl
  subst free
  refine hfree _ ?_
  simp only [↓reduceIte]
  wp_walk
  subst put
  apply wpAny_setField_rec hz (by simp)
  intro g0 hz0 hs0
  replace hz0 : IsZ g0 z (b + cs.length) (b + cs.length + 1) .ellipsis f := hz0
  replace hs0 : Heap.SameBut z s.heap g0 := hs0
  refine wpAny_bind (wpAny_forIn_list _ (fun rest st s' => ∃ (m : Nat) (h' : Heap), m ≤ cs.length ∧ rest = ((itsN b cs.length).toList.drop m).zipIdx m ∧ st = (none, ()) ∧ s' = { s with heap := h' } ∧ Srcs h' b cs k m ∧ IsZ h' z (b + cs.length) (b + cs.length + 1) .ellipsis f ∧ IsTupN h' (b + cs.length + 1) (upTO cs os k m) ∧ (∀ j c xs, j < m → cs[j]? = some (c, xs) → k < xs.size) ∧ ∀ c o, c ≠ z → c ≠ b + cs.length + 1 → (c < b ∨ b + cs.length ≤ c) → s.heap.get? c = some o → h'.get? c = some o) _ ?_ ?_ _ _ ?_)
  · rintro ⟨x, i⟩ rest st s' ⟨m, h', hm, er, rfl, rfl, hsr, hz', hT', hb, hk⟩
    obtain ⟨rest', er1, ei, er2⟩ : ∃ rest', (itsN b cs.length).toList.drop m = x :: rest' ∧ i = m ∧ rest = rest'.zipIdx (m + 1) := by
      cases e : (itsN b cs.length).toList.drop m with
      | nil => rw [e] at er; cases er
      | cons y ys =>
        rw [e, List.zipIdx_cons] at er
        have := List.cons.inj er
        cases this.1
        exact ⟨ys, rfl, rfl, this.2⟩
    subst ei er2
    obtain ⟨hlt', rfl, rfl⟩ := its_cons er1.symm
    obtain ⟨c, xs, e1⟩ : ∃ c xs, cs[i]? = some (c, xs) := ⟨_, _, List.getElem?_eq_getElem hlt'⟩
    have e3 := hsr.lo i c xs e1
    refine wpAny_bind (wpAny_onRaise ?_)
    show wpAny _ _ (Builtin.SmallTypes.nextOf (.ref (b + i)) >>= _) _ _ _
    have hit := hsr.it i c xs e1
    rw [if_neg (Nat.lt_irrefl _)] at hit
    cases e2 : xs[k]? with
    | none =>
      refine wpAny_bind (next_end (s := { s with heap := h' }) hh hit e2 fun h2 e sb he => ?_)
      have hz2 : IsZ h2 z (b + cs.length) (b + cs.length + 1) .ellipsis f := sb _ _ (ne_ (by omega)) hz'
      obtain ⟨oe, hoe, hce⟩ := he
      have hez : e ≠ z := fun x => by subst x; rw [hz2] at hoe; cases hoe; simp at hce
      refine wpAny_setField_rec (s := { s with heap := h2 }) hz2 (by simp) fun h3 _ hs3 => hE h3 e (fun c o h1 h2 h3' h4 => hs3.extBut _ _ h1 (sb _ _ (ne_ (by omega)) (hk c o h1 h2 h3' h4))) ⟨oe, hs3.extBut _ _ hez hoe, hce⟩
    | some v =>
      refine wpAny_bind (next_item (s := { s with heap := h' }) hit (by omega) e2 fun h2 hit2 sb => wpAny_pure ?_)
      have hT2 : IsTupN h2 (b + cs.length + 1) (upTO cs os k i) := sb.extBut _ _ (ne_ (by omega)) hT'
      refine wpAny_bind (wpAny_seqItems hT2 rfl ?_)
      have hus : (upTO cs os k i).size = cs.length := upTO_size hos hm
      refine wpAny_bind (wpAny_updateSeq (s := { s with heap := h2 }) hT2 rfl ?_ (by rw [hus]; exact hsz) (by rw [Array.size_setIfInBounds, hus]; omega))
      refine wpAny_bind (wpAny_letGo (wpAny_pure ?_))
      have e4 := Heap.get?_update_self (Obj.mapSeq (·.setIfInBounds i v)) hT2 rfl
      have sb2 : Heap.SameBut (b + cs.length + 1) h2 (h2.update (b + cs.length + 1) (Obj.mapSeq (·.setIfInBounds i v))) := Heap.SameBut.update ..
      refine ⟨i + 1, _, hlt', rfl, rfl, rfl, (hsr.step e1 hit2 sb).same fun a o hl q => sb2.extBut _ _ (ne_ (by omega)) q, sb2.extBut _ _ (ne_ (by omega)) (sb.extBut _ _ (ne_ (by omega)) hz'), ?_, fun j c' xs' hj ej => ?_, fun c o h1 h2 h3 h4 => sb2.extBut _ _ (ne_ (by omega)) (sb.extBut _ _ (ne_ (by omega)) (hk c o h1 h2 h3 h4))⟩
      · rw [← upTO_set e1 e2 (by omega)]
        simpa [Obj.mapSeq] using e4
      · by_cases hjm : j = i
        · subst hjm
          rw [e1] at ej
          cases ej
          exact (Array.getElem?_eq_some_iff.mp e2).1
        · exact hb j c' xs' (by omega) ej
  · rintro st s' ⟨m, h', hm, er, rfl, rfl, hsr, hz', hT', hb, hk⟩
    have hme : m = cs.length := by
      refine its_nil (b := b) hm ?_
      cases e : (itsN b cs.length).toList.drop m with
      | nil => rfl
      | cons y ys => rw [e] at er; cases er
    subst hme
    obtain ⟨q, hq, hqk⟩ := hend
    obtain ⟨j, hj⟩ := List.mem_iff_getElem?.mp hq
    have := hb j q.1 q.2 (List.getElem?_eq_some_iff.mp hj).1 hj
    omega
  · exact ⟨0, g0, Nat.zero_le _, rfl, rfl, rfl, hs.same fun a o hl q => hs0.extBut _ _ (ne_ (by omega)) q, hz0, by rw [upTO_zero]; exact hs0.extBut _ _ (ne_ (by omega)) hTO, fun j c xs hj => by omega, fun c o h1 _ _ h4 => hs0.extBut _ _ h1 h4⟩
end
end Zn

namespace Zn
open PySem PySem.Spec PyProof.Rows L2
section
variable {prog : Program} {w : World} {A : Around} {E : Value → Shared → Prop} {s : Shared}
theorem not_alive {a : Addr} {Q : Option Obj → Shared → Prop} (ho : s.heap.get? a = none) (h : Q none s) : wpAny (model prog w) A (loadIfAlive a) Q E s := by
  have h' : Q (s.heap.get? a) s := by rw [ho]; exact h
  exact fun _ _ _ => h'
theorem tuple_gone {z TI TO T : Nat} {f : Bool} {Q : Bool → Shared → Prop} (hz : IsZ s.heap z TI TO (rawInt T) f) (hT : s.heap.get? T = none) (h : Q true s) : wpAny (model prog w) A (Builtin.SmallTypes.ownedTupleIsFree (.ref z)) Q E s := by
  unfold Builtin.SmallTypes.ownedTupleIsFree
  refine wpAny_bind (wpAny_field hz rfl (x := rawInt T) rfl ?_)
  show wpAny _ _ (loadIfAlive ((T : Int).toNat) >>= _) _ _ _
  rw [Int.toNat_natCast]
  refine wpAny_bind (not_alive hT ?_)
  simp only [Option.isNone_none, if_true]
  exact wpAny_pure h
end
inductive RefsK (K : PySem.W.Frag) (H : Hp) : List (Nat × Bool) → List (List V) → Prop
  | nil : RefsK K H [] []
  | cons {a : Nat} {t : Bool} {xs : List V} {as : List (Nat × Bool)} {xss : List (List V)} : SqK K t H a xs → RefsK K H as xss → RefsK K H ((a, t) :: as) (xs :: xss)
theorem RefsK.length {K : PySem.W.Frag} {H : Hp} : ∀ {as : List (Nat × Bool)} {xss : List (List V)}, RefsK K H as xss → as.length = xss.length
  | _, _, .nil => rfl
  | _, _, .cons _ t => congrArg (· + 1) t.length
section
variable {X : Cx} {pins : List (Addr × Obj)} {σ : L2.St} {H : Hp} {s : Shared}
theorem refsK_inj (I : Inv X pins σ H s) : ∀ {as : List (Nat × Bool)} {xss yss : List (List V)}, RefsK X.K H as xss → RefsK X.K H as yss → xss = yss
  | _, _, _, .nil, .nil => rfl
  | _, _, _, .cons h t, .cons h' t' => by rw [sqK_inj I h h', refsK_inj I t t']
theorem refsK_cs (I : Inv X pins σ H s) : ∀ {as : List (Nat × Bool)} {xss : List (List V)}, RefsK X.K H as xss → ∃ cs : List (Nat × Array Value), Hold cs xss ∧ cs.length = as.length ∧ (∀ (j a : Nat) (t : Bool), as[j]? = some (a, t) → ∃ its, cs[j]? = some (a, its) ∧ CoK s.heap t a its)
  | _, _, .nil => ⟨[], ⟨rfl, fun j c its xs h => nomatch h⟩, rfl, fun j a t h => nomatch h⟩
  | _, _, .cons (a := a) (t := t) (xs := xs) h r => by
    obtain ⟨cs, h1, h2, h3⟩ := refsK_cs I r
    obtain ⟨its, rv, co⟩ := held_k I h
    refine ⟨(a, its.toArray) :: cs, ⟨by simp [h1.len], fun j c i2 x2 hj hx => ?_⟩, by simp [h2], fun j a' t' hj => ?_⟩
    · cases j with
      | zero =>
        simp at hj hx
        obtain ⟨rfl, rfl⟩ := hj
        subst hx
        simpa using rv
      | succ j => exact h1.at_ j c i2 x2 (by simpa using hj) (by simpa using hx)
    · cases j with
      | zero =>
        simp at hj
        obtain ⟨rfl, rfl⟩ := hj
        exact ⟨its.toArray, rfl, co⟩
      | succ j =>
        obtain ⟨i2, e1, e2⟩ := h3 j a' t' (by simpa using hj)
        exact ⟨i2, by simpa using e1, e2⟩
end
theorem coK_keep {h h' : Heap} {t : Bool} {c : Nat} {xs : Array Value} (co : CoK h t c xs) (k : ∀ o, h.get? c = some o → h'.get? c = some o) : CoK h' t c xs := by
  cases t with
  | false => exact Heap.IsList.at co k
  | true => exact Heap.IsTuple.at co k
def ItzN (K : PySem.W.Frag) (as : List (Nat × Bool)) : It where
  go i H := ∃ xss, RefsK K H as xss ∧ ∀ xs ∈ xss, i < xs.length
  yld i H v H' := ∃ (T : Addr) (vs : List V), v = V.ref T ∧ H T = none ∧ H' = upd H T (.tup vs) ∧ ∀ xss, RefsK K H as xss → vs = colV xss i
  stop i H := ∃ xss, RefsK K H as xss ∧ ∃ xs ∈ xss, xs.length ≤ i
def fpN (b n : Nat) : List Addr := (List.range (n + 3)).map fun j => (b + j : Nat)
theorem in_fpN {b n c : Nat} : c ∈ fpN b n ↔ b ≤ c ∧ c ≤ b + n + 2 := by
  unfold fpN
  rw [List.mem_map]
  constructor
  · rintro ⟨j, hj, rfl⟩
    have := List.mem_range.mp hj
    exact ⟨Nat.le_add_right _ _, by omega⟩
  · rintro ⟨h1, h2⟩
    exact ⟨c - b, List.mem_range.mpr (by omega), by show b + (c - b) = c; omega⟩
structure TnN (b : Nat) (as : List (Nat × Bool)) (i : Nat) (h : Heap) : Prop where
  ti : IsTupN h (b + as.length) (itsN b as.length)
  it : ∀ (j a : Nat) (t : Bool), as[j]? = some (a, t) → ItK h t (b + j) a i
  ot : ∃ os : Array Value, IsTupN h (b + as.length + 1) os ∧ os.size = as.length
  z : IsZ h (b + as.length + 2) (b + as.length) (b + as.length + 1) .none false ∨ ∃ (T : Nat) (f : Bool), IsZ h (b + as.length + 2) (b + as.length) (b + as.length + 1) (rawInt T) f ∧ b + as.length + 2 < T
theorem TnN.typ {b i : Nat} {as : List (Nat × Bool)} {s : Shared} (st : TnN b as i s.heap) : s.TypeIs (.ref (b + as.length + 2)) "zip" := by
  rcases st.z with h | ⟨T, f, h, _⟩
  · exact ⟨_, h, rfl⟩
  · exact ⟨_, h, rfl⟩
theorem TnN.lt {b i : Nat} {as : List (Nat × Bool)} {h : Heap} (st : TnN b as i h) : b + as.length + 2 < h.objs.size := by
  rcases st.z with h | ⟨T, f, h, _⟩
  · exact Heap.lt_size h
  · exact Heap.lt_size h
theorem srcs_n {h : Heap} {b k : Nat} {as : List (Nat × Bool)} {cs : List (Nat × Array Value)} (lo : ∀ q ∈ as, q.1 < b) (it : ∀ (j a : Nat) (t : Bool), as[j]? = some (a, t) → ItK h t (b + j) a k) (el : cs.length = as.length)
    (co : ∀ (j a : Nat) (t : Bool), as[j]? = some (a, t) → ∃ its, cs[j]? = some (a, its) ∧ CoK h t a its) : Srcs h b cs k 0 := by
  have get : ∀ (j c : Nat) (xs : Array Value), cs[j]? = some (c, xs) → ∃ t, as[j]? = some (c, t) ∧ CoK h t c xs := fun j c xs hj => by
    have lt : j < as.length := by rw [← el]; exact (List.getElem?_eq_some_iff.mp hj).1
    obtain ⟨its, e1, e2⟩ := co j as[j].1 as[j].2 (List.getElem?_eq_getElem lt)
    rw [hj] at e1
    cases e1
    exact ⟨as[j].2, List.getElem?_eq_getElem lt, e2⟩
  refine ⟨fun j c xs hj => ?_, fun j c xs hj => ?_⟩
  · rw [if_neg (Nat.not_lt_zero _)]
    obtain ⟨t, e1, e2⟩ := get j c xs hj
    exact srcIt_k (it j c t e1) e2
  · obtain ⟨t, e1, _⟩ := get j c xs hj
    exact lo _ (List.mem_of_getElem? e1)
section
variable {prog : Program} {w : World} {A : Around} {E : Value → Shared → Prop} {s : Shared}
theorem zn_item {b k : Nat} {as : List (Nat × Bool)} {cs : List (Nat × Array Value)} {Q : Option Value → Shared → Prop} (st : TnN b as k s.heap) (lo : ∀ q ∈ as, q.1 < b) (el : cs.length = as.length) (co : ∀ (j a : Nat) (t : Bool), as[j]? = some (a, t) → ∃ its, cs[j]? = some (a, its) ∧ CoK s.heap t a its)
    (hn : cs ≠ []) (hk : ∀ q ∈ cs, k < q.2.size) (hsz : cs.length ≤ sizeLine)
    (hQ : ∀ h', TnN b as (k + 1) h' → IsTupN h' s.heap.objs.size (cs.map fun q => q.2[k]?.getD .none).toArray → (∀ c o, (c < b ∨ b + as.length + 2 < c) → s.heap.get? c = some o → h'.get? c = some o) → Q (some (.ref s.heap.objs.size)) { s with heap := h' }) :
    wpAny (model prog w) A (pyNext (.ref (b + as.length + 2))) Q E s := by
  have sr := srcs_n lo st.it el co
  have lt := st.lt
  have its2 : ∀ {h' : Heap}, Srcs h' b cs (k + 1) 0 → (∀ c o, c < b → s.heap.get? c = some o → h'.get? c = some o) → ∀ (j a : Nat) (t : Bool), as[j]? = some (a, t) → ItK h' t (b + j) a (k + 1) := fun {h'} sr' keep j a t hj => by
    obtain ⟨its, e1, e2⟩ := co j a t hj
    have q := sr'.it j a its e1
    rw [if_neg (Nat.not_lt_zero _)] at q
    exact itK_src q (coK_keep e2 fun o e => keep a o (lo _ (List.mem_of_getElem? hj)) e)
  apply next_road st.typ
  rw [← el]
  obtain ⟨os, out, size⟩ := st.ot
  have ti := st.ti
  rw [← el] at out size ti lt
  have fin : ∀ h', Srcs h' b cs (k + 1) 0 → IsTupN h' s.heap.objs.size (cs.map fun q => q.2[k]?.getD .none).toArray → (∃ os' : Array Value, IsTupN h' (b + cs.length + 1) os' ∧ os'.size = cs.length) →
      (∀ c o, c ≠ b + cs.length + 2 → c ≠ b + cs.length + 1 → (c < b ∨ b + cs.length ≤ c) → s.heap.get? c = some o → h'.get? c = some o) → (∃ (T : Nat) (f : Bool), IsZ h' (b + cs.length + 2) (b + cs.length) (b + cs.length + 1) (rawInt T) f ∧ b + cs.length + 2 < T) →
      Q (some (.ref s.heap.objs.size)) { s with heap := h' } := fun h' sr' new out' keeps z' => by
    have t' := keeps _ _ (by omega) (by omega) (.inr (Nat.le_refl _)) ti
    have i' := its2 sr' fun c o hc e => keeps c o (by omega) (by omega) (.inl hc) e
    rw [el] at t' out' z'
    exact hQ h' ⟨t', i', out', .inr z'⟩ new fun c o side e => keeps c o (by omega) (by omega) (by omega) e
  rcases st.z with free | ⟨T, f, held, below⟩
  · rw [← el] at free
    exact free_item free (by omega) ti out size sr hn hk hsz fun h' z1 sr' new out' more keeps => fin h' sr' new ⟨_, out', by simp⟩ keeps ⟨_, _, z1, lt⟩
  · rw [← el] at held below
    cases hT : s.heap.get? T with
    | some oT =>
      exact held_item held hT (by omega) ti sr hn hk hsz fun h' z1 sr' new more keeps => fin h' sr' new ⟨os, keeps _ _ (by omega) (.inr (by omega)) out, size⟩ (fun c o h1 _ h3 e => keeps c o h1 h3 e) ⟨T, _, z1, below⟩
    | none =>
      exact free_itemG held (fun Q q => tuple_gone held hT q) (by omega) ti out size sr hn hk hsz fun h' z1 sr' new out' more keeps => fin h' sr' new ⟨_, out', by simp⟩ keeps ⟨_, _, z1, lt⟩
theorem zn_end {b k : Nat} {as : List (Nat × Bool)} {cs : List (Nat × Array Value)} {Q : Option Value → Shared → Prop} (hh : A.in1.handled = none) (st : TnN b as k s.heap) (lo : ∀ q ∈ as, q.1 < b) (el : cs.length = as.length) (co : ∀ (j a : Nat) (t : Bool), as[j]? = some (a, t) → ∃ its, cs[j]? = some (a, its) ∧ CoK s.heap t a its)
    (hend : ∃ q ∈ cs, q.2.size ≤ k) (hsz : cs.length ≤ sizeLine) (hQ : ∀ h', (∀ c o, (c < b ∨ b + as.length + 2 < c) → s.heap.get? c = some o → h'.get? c = some o) → Q none { s with heap := h' }) :
    wpAny (model prog w) A (pyNext (.ref (b + as.length + 2))) Q E s := by
  have sr := srcs_n lo st.it el co
  have lt := st.lt
  apply next_road st.typ
  rw [← el]
  obtain ⟨os, out, size⟩ := st.ot
  have ti := st.ti
  rw [← el] at out size ti lt
  rcases st.z with free | ⟨T, f, held, below⟩
  · rw [← el] at free
    exact free_end hh free (by omega) ti out size sr hend hsz fun h' a keeps ⟨o, at_, stop⟩ => ⟨a, o, rfl, at_, stop, hQ h' fun c o side e => keeps c o (by omega) (by omega) (by omega) e⟩
  · rw [← el] at held below
    cases hT : s.heap.get? T with
    | some oT => exact held_end hh held hT (by omega) ti sr hend fun h' a keeps ⟨o, at_, stop⟩ => ⟨a, o, rfl, at_, stop, hQ h' fun c o side e => keeps c o (by omega) (by omega) e⟩
    | none => exact free_endG hh held (fun Q q => tuple_gone held hT q) (by omega) ti out size sr hend hsz fun h' a keeps ⟨o, at_, stop⟩ => ⟨a, o, rfl, at_, stop, hQ h' fun c o side e => keeps c o (by omega) (by omega) (by omega) e⟩
end
theorem turn_zipN {P : Program} {w : World} {K : PySem.W.Frag} {y : Str} {p : Pos} {b : Nat} {as : List (Nat × Bool)} (lo : ∀ q ∈ as, q.1 < b) (hn : as ≠ []) (hl : as.length ≤ 16) :
    Turn P w K (.Name y p) (ItzN K as) (fpN b as.length) (b + as.length + 2 : Nat) (TnN b as) where
  mem := in_fpN.mpr ⟨by omega, by omega⟩
  obj i h st d hd := by
    have hd := in_fpN.mp hd
    obtain ⟨os, e2, _⟩ := st.ot
    obtain ⟨j, rfl⟩ : ∃ j : Nat, d = (b + j : Nat) := ⟨Nat.sub d b, (Nat.add_sub_cancel' hd.1).symm⟩
    by_cases h1 : j = as.length + 2
    · subst h1
      rcases st.z with z | ⟨T, f, z, _⟩
      · exact ⟨_, z, fun v z => nomatch z⟩
      · exact ⟨_, z, fun v z => nomatch z⟩
    by_cases h2 : j = as.length + 1
    · subst h2
      exact ⟨_, e2, fun v z => nomatch z⟩
    by_cases h3 : j = as.length
    · subst h3
      exact ⟨_, st.ti, fun v z => nomatch z⟩
    have lt : j < as.length := by omega
    have i1 := st.it j as[j].1 as[j].2 (List.getElem?_eq_getElem lt)
    exact itK_obj i1
  keep i h h' st k := by
    have kk : ∀ d : Nat, b ≤ d → d ≤ b + as.length + 2 → ∀ o, h.get? d = some o → h'.get? d = some o := fun d h1 h2 => k d (in_fpN.mpr ⟨h1, h2⟩)
    obtain ⟨os, e2, e3⟩ := st.ot
    refine ⟨kk _ (by omega) (by omega) _ st.ti, fun j a t hj => itK_keep (st.it j a t hj) (kk _ (by omega) (by have := (List.getElem?_eq_some_iff.mp hj).1; omega)), ⟨os, kk _ (by omega) (by omega) _ e2, e3⟩, ?_⟩
    rcases st.z with z | ⟨T, f, z, l⟩
    · exact .inl (kk _ (by omega) (by omega) _ z)
    · exact .inr ⟨T, f, kk _ (by omega) (by omega) _ z, l⟩
  item := by
    intro X hP hw hK hc' i pins s σ H E I hf st hg
    subst hP hw hK
    obtain ⟨xss, hr, hlt⟩ := hg
    obtain ⟨cs, hd, el, co⟩ := refsK_cs I hr
    have c0 : cs ≠ [] := fun z => hn (List.eq_nil_of_length_eq_zero (by rw [← el, z]; rfl))
    have sz : ∀ q ∈ cs, i < q.2.size := fun q hq => by
      obtain ⟨j, hj⟩ := List.mem_iff_getElem?.mp hq
      have hjl : j < xss.length := by rw [← hd.len]; exact (List.getElem?_eq_some_iff.mp hj).1
      have e := vals_len (hd.at_ j q.1 q.2 _ hj (List.getElem?_eq_getElem hjl))
      have := hlt _ (List.getElem_mem hjl)
      simp at e
      omega
    refine zn_item st lo el co c0 sz (by rw [el]; exact Nat.le_trans hl (by decide)) fun h' st' new keeps => ?_
    have fine : ∀ (d : Nat) o, d ∉ fpN b as.length → s.heap.get? d = some o → h'.get? d = some o := fun d o hd e => by
      have hd : ¬ (b ≤ d ∧ d ≤ b + as.length + 2) := fun z => hd (in_fpN.mpr z)
      exact keeps d o (by omega) e
    have few : (colV xss i).length ≤ sizeLine := by
      show (xss.map _).length ≤ _
      rw [List.length_map, ← hr.length]
      exact Nat.le_trans hl (by decide)
    have new2 : ObjOk X.prog X.w (upd H s.heap.objs.size (.tup (colV xss i))) h' s.heap.objs.size (.tup (colV xss i)) := ⟨few, _, hold_col hd i hlt, ⟨_, new, rfl, _, rfl⟩⟩
    have J := I.turnedNew (t' := s.toks) (ch := fpN b as.length) fine hf (Nat.le_refl _) new2
    refine ⟨_, rfl, wpAny_pure ⟨V.ref s.heap.objs.size, _, J, rfl, ⟨_, _, rfl, I.hok.fresh (Nat.le_refl _), rfl, fun yss hy => by rw [refsK_inj I hr hy]⟩, st', fun d hd => ?_⟩⟩
    have := in_fpN.mp hd
    have lt := st.lt
    rw [upd_ne (Nat.ne_of_lt (by omega))]
    exact (hf d hd).1
  done := by
    intro X hP hw hK hc' i pins s σ H E I hf st hg
    subst hP hw hK
    obtain ⟨xss, hr, xs, hx, hxl⟩ := hg
    obtain ⟨cs, hd, el, co⟩ := refsK_cs I hr
    have le : ∃ q ∈ cs, q.2.size ≤ i := by
      obtain ⟨j, hj⟩ := List.mem_iff_getElem?.mp hx
      have hjl : j < cs.length := by rw [hd.len]; exact (List.getElem?_eq_some_iff.mp hj).1
      have e := vals_len (hd.at_ j cs[j].1 cs[j].2 _ (List.getElem?_eq_getElem hjl) hj)
      have e2 : xs.length = cs[j].2.size := by rw [e, Array.length_toList]
      exact ⟨cs[j], List.getElem_mem hjl, by rw [← e2]; exact hxl⟩
    refine zn_end (I.ok.hd hc') st lo el co le (by rw [el]; exact Nat.le_trans hl (by decide)) fun h' keeps => ⟨rfl, I.turnedL (t' := s.toks) (ch := fpN b as.length) (fun (d : Nat) o hd e => ?_) hf⟩
    have hd : ¬ (b ≤ d ∧ d ≤ b + as.length + 2) := fun z => hd (in_fpN.mpr z)
    exact keeps d o (by omega) e
  self A i s Q E st h := by
    apply wpAny_pyIter_slot st.typ PySem.F.slot_zip_iter
    apply wpAny_call_entry PySem.F.slot_zip_iter st.typ PySem.F.entry_zip_iter _ (PySem.F.args_zip_iter_1 _)
    apply wpAny_pure
    exact ⟨_, rfl, "zip", _, st.typ, PySem.F.slot_zip_next.lookup, h⟩
end Zn

namespace Zn
open PySem PySem.Spec PyProof.Rows L2
def iZipS (K : PySem.W.Frag) (te : TE) : TI := fun σ H R => te σ H fun y H1 => ∃ (a : Addr) (as : List (Nat × Bool)) (xss : List (List V)), y = V.ref a ∧ (SqT K H1 a (as.map fun q => V.ref q.1) ∨ SqL K H1 a (as.map fun q => V.ref q.1)) ∧ RefsK K H1 as xss ∧ as ≠ [] ∧ as.length ≤ 16 ∧ R (ItzN K as) H1
theorem refs_us : ∀ {as : List (Nat × Bool)} {us : List Value}, Vals (as.map fun q => V.ref q.1) us → us = as.map fun q => Value.ref q.1
  | [], _, .nil => rfl
  | q :: as, _, .cons r t => by
    cases r
    rw [refs_us t]
    rfl
theorem pi_zipS {X : Cx} {y : Str} {e : Expr} {te : TE} {p p1 p2 pos : Pos} (hg : Gl X "zip") (hm : X.mg "zip" = none) (he : PE X e te) (hs : starEach [.Starred e p2] X.env = [(true, eval e X.env)] := by rfl) :
    PI X (.Name y p1) (.Call (.Name "zip" p) [.Starred e p2] [] pos) (iZipS X.K te) := by
  constructor
  intro pins s σ H R I h
  refine Call_ (ld_blt I hg hm PyProof.Rows.boot_zip ?_)
  rw [hs]
  refine callT_star rfl (PySem.W.ks_lone (thn (he.run pins s σ H _ I h) fun v s1 ⟨y, H1, I1, ry, a, as, xss, ey, hx, hr, h0, h1, q⟩ => ?_))
  subst ey
  obtain rfl : v = Value.ref a := ry
  refine StX.star_any I1 hx fun us s2 I2 rv => ?_
  obtain rfl := refs_us rv
  obtain ⟨cs, hd, el, co⟩ := refsK_cs I2 hr
  have get : ∀ (j c : Nat) (xs : Array Value), cs[j]? = some (c, xs) → ∃ t, as[j]? = some (c, t) ∧ CoK s2.heap t c xs := fun j c xs hj => by
    have lt : j < as.length := by rw [← el]; exact (List.getElem?_eq_some_iff.mp hj).1
    obtain ⟨its, e1, e2⟩ := co j as[j].1 as[j].2 (List.getElem?_eq_getElem lt)
    rw [hj] at e1
    cases e1
    exact ⟨as[j].2, List.getElem?_eq_getElem lt, e2⟩
  have ec : (as.map fun q => Value.ref q.1) = cs.map fun q : Nat × Array Value => Value.ref q.1 := by
    refine List.ext_getElem? fun j => ?_
    rw [List.getElem?_map, List.getElem?_map]
    cases ej : cs[j]? with
    | none =>
      have : as[j]? = none := List.getElem?_eq_none (by rw [← el]; exact List.getElem?_eq_none_iff.mp ej)
      rw [this]
      rfl
    | some c =>
      obtain ⟨t, e1, _⟩ := get j c.1 c.2 ej
      rw [e1]
      rfl
  rw [ec]
  refine call_zip (fun q hq => ?_) (by rw [el]; exact h1) fun h' z hz hk fz => ?_
  · obtain ⟨j, hj⟩ := List.mem_iff_getElem?.mp hq
    obtain ⟨t, _, c⟩ := get j q.1 q.2 hj
    exact src_k c
  obtain ⟨os, zz, ot, osz⟩ := fz
  have lo : ∀ q ∈ as, q.1 < s2.heap.objs.size := fun q hq => by
    obtain ⟨j, hj⟩ := List.mem_iff_getElem?.mp hq
    obtain ⟨its, _, c⟩ := co j q.1 q.2 hj
    exact co_lt c
  have ti := z.ti
  have it : ∀ (j a : Nat) (t : Bool), as[j]? = some (a, t) → ItK h' t (s2.heap.objs.size + j) a 0 := fun j a t hj => by
    obtain ⟨its, e1, c⟩ := co j a t hj
    have q := z.sr.it j a its e1
    rw [if_neg (Nat.not_lt_zero _)] at q
    exact itK_src q (coK_keep c fun o e => hk _ o e)
  rw [el] at zz ot osz ti
  have st : TnN s2.heap.objs.size as 0 h' := ⟨ti, it, ⟨os, ot, osz⟩, .inl zz⟩
  rw [el]
  refine (turn_zipN (P := X.prog) (w := X.w) (K := X.K) (y := ‹Str›) (p := p1) lo h0 h1).self X.A 0 { s2 with heap := h' } _ _ st ?_
  exact ⟨_, fpN s2.heap.objs.size as.length, _, _, H1, rfl, I2.kept (t' := s2.toks) hk, turn_zipN lo h0 h1, st, fun d hd => I2.fpOk (in_fpN.mp hd).1 (I2.hok.fresh (in_fpN.mp hd).1), q⟩
end Zn
namespace Pd
open PySem PySem.Spec PyProof.Rows L2 LamX Zn
section
variable {X : Cx} {T : List (Addr × Str)} {E : XK} {k : Nat}
theorem refsK_of {K : PySem.W.Frag} {T : List (Addr × Str)} {wd : Wd} {H : Hp} (g : Good T wd H) : ∀ {ds : List D} {vs : List V} {dss : List (List D)}, itemsAll ds = some dss → Reps K wd vs ds → ∃ as xss, vs = as.map (fun q : Nat × Bool => V.ref q.1) ∧ (∀ H', Sub wd.M H' → RefsK K H' as xss) ∧ RepL K wd xss dss ∧ ∀ xs ∈ xss, xs.length ≤ sizeLine
  | [], _, _, e, .nil => by
    cases e
    exact ⟨[], [], rfl, fun _ _ => .nil, .nil, fun _ h => nomatch h⟩
  | d :: ds, _, dss, e, .cons r rr => by
    unfold itemsAll at e
    split at e
    · rename_i ys yss e1 e2
      cases e
      obtain ⟨as, xss, e3, h1, h2, h3⟩ := refsK_of g e2 rr
      obtain ⟨a, t, us, rfl, l1, rs1, z1⟩ := sq_rep g e1 r
      refine ⟨(a, t) :: as, us :: xss, by rw [e3]; rfl, fun H' z => .cons (l1 H' z) (h1 H' z), .cons rs1 h2, fun xs hx => ?_⟩
      rcases List.mem_cons.mp hx with rfl | hx
      · exact z1
      · exact h3 xs hx
    · cases e
theorem repL_mem {K : PySem.W.Frag} {wd : Wd} : ∀ {xss : List (List V)} {dss : List (List D)}, RepL K wd xss dss → ∀ xs ∈ xss, ∃ ds ∈ dss, xs.length = ds.length
  | _, _, .nil, _, h => nomatch h
  | _, _, .cons r t, xs, h => by
    rcases List.mem_cons.mp h with rfl | h
    · exact ⟨_, List.mem_cons_self, r.length⟩
    · obtain ⟨ds, h1, h2⟩ := repL_mem t xs h
      exact ⟨ds, List.mem_cons_of_mem _ h1, h2⟩
theorem repL_mem2 {K : PySem.W.Frag} {wd : Wd} : ∀ {xss : List (List V)} {dss : List (List D)}, RepL K wd xss dss → ∀ ds ∈ dss, ∃ xs ∈ xss, xs.length = ds.length
  | _, _, .nil, _, h => nomatch h
  | _, _, .cons r t, ds, h => by
    rcases List.mem_cons.mp h with rfl | h
    · exact ⟨_, List.mem_cons_self, r.length⟩
    · obtain ⟨xs, h1, h2⟩ := repL_mem2 t ds h
      exact ⟨xs, List.mem_cons_of_mem _ h1, h2⟩
def wZipS (a : W D) : W (List D) := a.bind fun x env Q _ => ∃ xs dss, dItems x = some xs ∧ itemsAll xs = some dss ∧ dss ≠ [] ∧ dss.length ≤ 16 ∧ Q (colsD dss) env
theorem ji_zipS {y : Str} {e : Expr} {w : W D} {p p1 p2 pos : Pos} (hg : Gl X "zip") (hm : X.mg "zip" = none) (he : JE T X E e w) (hs : starEach [.Starred e p2] X.env = [(true, eval e X.env)] := by rfl) : JI T X E (.Name y p1) (.Call (.Name "zip" p) [.Starred e p2] [] pos) (wZipS w) :=
  piI (pi_zipS hg hm he hs) fun σ H R ⟨c, wd, env, P, Ex, r, h, xo, kk⟩ => ⟨c, wd, env, _, Ex, r, h, xo, fun d env1 h1 v wd1 H1 le1 r1 rp1 => by
    obtain ⟨xs, dss, e0, e1, e2, e3, h2⟩ := h1
    obtain ⟨a, t, vs, rfl, l1, rs, _⟩ := sq_rep r1.good e0 rp1
    obtain ⟨as, xss, rfl, f1, f2, f3⟩ := refsK_of r1.good e1 rs
    have el : as.length = dss.length := ((f1 _ r1.good.sub).length).trans f2.length
    have hx := l1 _ r1.good.sub
    refine ⟨a, as, xss, rfl, ?_, f1 _ r1.good.sub, fun z => e2 (List.eq_nil_of_length_eq_zero (by rw [← el, z]; rfl)), by rw [el]; exact e3, kk _ env1 h2 _ wd1 H1 le1 r1 ?_ ?_⟩
    · cases t with
      | false => exact .inr hx
      | true => exact .inl hx
    · have ln : (colsD dss).length = minLen dss := by unfold colsD; rw [List.length_map, List.length_range]
      unfold WalkD
      rw [ln]
      refine ⟨fun i H hi z => ⟨xss, f1 _ z, fun us hu => ?_⟩, fun H z => ⟨xss, f1 _ z, ?_⟩, fun i H x H' hi z y => ?_⟩
      · obtain ⟨ds, g1, g2⟩ := repL_mem f2 us hu
        rw [g2]
        exact Nat.lt_of_lt_of_le hi (minLen_le ds g1)
      · obtain ⟨ds, g1, g2⟩ := minLen_mem e2
        obtain ⟨us, g3, g4⟩ := repL_mem2 f2 ds g1
        exact ⟨us, g3, by rw [g4]; exact g2⟩
      · obtain ⟨T', ws, rfl, hn, rfl, hw⟩ := y
        have ew := hw _ (f1 _ z)
        subst ew
        have rc := repL_col f2 i fun ds hds => Nat.lt_of_lt_of_le hi (minLen_le ds hds)
        refine ⟨.tup (colD dss i), ?_, .inr (.inl ⟨T', _, _, rfl, hn, rfl, rfl, rc, ?_⟩)⟩
        · unfold colsD
          rw [List.getElem?_map, List.getElem?_range hi]
          rfl
        · unfold colV
          rw [List.length_map, f2.length]
          exact Nat.le_trans e3 (by decide)
    · unfold colsD
      rw [List.length_map, List.length_range]
      obtain ⟨ds, g1⟩ : ∃ ds, ds ∈ dss := List.exists_mem_of_ne_nil _ e2
      obtain ⟨us, g3, g4⟩ := repL_mem2 f2 ds g1
      exact Nat.le_trans (minLen_le ds g1) (by rw [← g4]; exact f3 us g3)⟩
end
end Pd

namespace Pd
open PySem PySem.Spec PyProof.Rows L2 LamX
section
variable {X : Cx} {T : List (Addr × Str)} {E : XK} {k : Nat}
section
variable {o e : Expr} {apos pos : Pos}
end
section
variable {x : Str} {p1 pos : Pos}
end
end
end Pd

namespace Pd
open PySem PySem.Spec PyProof.Rows L2 LamX
section
variable {X : Cx} {T : List (Addr × Str)} {E : XK} {k : Nat}
end
end Pd

namespace Pd
open PySem PySem.Spec PyProof.Rows L2 LamX
section
variable {i : Nat} {cls : List Str} {hs : List Hq} {fin : Str} {w : W D} {b : WS} {pe : PEnds} {env : PEnv} {xs : List D}
end
end Pd

namespace Ta
open PySem PySem.Spec PyProof.Rows L2 LamX Pd
abbrev F_is_integer := Pd.F_is_integer
abbrev F_is_from := Pd.F_is_from
abbrev F_L_ball := Pd.F_draw
abbrev F_L_pick := Pd.F_pick
def badN (x : D) : Xc := ⟨"InvalidNumber", [("value", x)]⟩
structure Tb (c : Int) (rs : List (List Int)) : Prop where
  c1 : 1 ≤ c
  c9 : c ≤ 9
  l1 : 1 ≤ rs.length
  l12 : rs.length ≤ 12
  w : ∃ m, 1 ≤ m ∧ m ≤ 12 ∧ ∀ r ∈ rs, r.length = m
  ce : ∀ r ∈ rs, ∀ x ∈ r, 0 ≤ x ∧ x ≤ c
abbrev lnD (rs : List (List Int)) : D := .tup (rs.map Ti)
abbrev tbD (c : Int) (rs : List (List Int)) : D := .ins "Table" [("own_cap", .int c), ("own_lines", lnD rs)]
def wd (rs : List (List Int)) : Nat := (rs.headD []).length
def cl (rs : List (List Int)) (i j : Nat) : Int := (rs.getD i []).getD j 0
def colI (rs : List (List Int)) (j : Nat) : List Int := rs.map fun r => r.getD j 0
def flip (rs : List (List Int)) : List (List Int) := (List.range (wd rs)).map (colI rs)
def put (rs : List (List Int)) (i j : Nat) (z : Int) : List (List Int) := rs.set i ((rs.getD i []).set j z)
def lsum (rs : List (List Int)) : List Int := rs.map List.sum
def csum (rs : List (List Int)) : List Int := (flip rs).map List.sum
def F_is_cap : Fn := fun ds Q _ => ∃ c : Int, ds = [.int c] ∧ 1 ≤ c ∧ c ≤ 9 ∧ Q (.bl true)
def F_is_line : Fn := fun ds Q _ => ∃ (c : Int) (r : List Int), ds = [.int c, Ti r] ∧ 1 ≤ r.length ∧ r.length ≤ 12 ∧ (∀ x ∈ r, 0 ≤ x ∧ x ≤ c) ∧ Q (.bl true)
def F_are_lines : Fn := fun ds Q _ => ∃ c rs, ds = [.int c, lnD rs] ∧ Tb c rs ∧ Q (.bl true)
def F_Table_init : IFn := fun ds P _ => ∃ c rs, ds = [.int c, lnD rs] ∧ Tb c rs ∧ P [("own_cap", .int c), ("own_lines", lnD rs)]
abbrev I_Table : IFn := starF 1 F_Table_init
def F_Table_of : Fn := fun ds Q _ => ∃ c rs, ds = [.cls "Table", .int c, lnD rs] ∧ Tb c rs ∧ Q (tbD c rs)
def F_Table_line_sums : Fn := fun ds Q _ => ∃ c rs, ds = [tbD c rs] ∧ Tb c rs ∧ Q (Ti (lsum rs))
def F_Table_column_sums : Fn := fun ds Q _ => ∃ c rs, ds = [tbD c rs] ∧ Tb c rs ∧ Q (Ti (csum rs))
def ixP (x : D) (n : Nat) (Ex : Xc → Prop) (R : Nat → Prop) : Prop := kd x ∧ (inR x 0 ((n : Int) - 1) = false → Ex (badN x)) ∧ ∀ i : Nat, i < n → x = .int (i : Int) → R i
def F_require_index : Fn := fun ds Q Ex => ∃ (x : D) (n : Nat), ds = [x, .int (n : Int)] ∧ ixP x n Ex fun _ => Q .non
end Ta

namespace Ta
open PySem PySem.Spec PyProof.Rows L2 LamX Pd
def N_is_integer : List Str := ["value"]
def w_is_integer : WS := (sRet (wAnd (w1 (dIsi "int") (wVar 0)) (wNot (w1 (dIsi "bool") (wVar 0)))))
def N_is_from : List Str := ["value", "first", "last"]
def w_is_from : WS := (sRet (wAnd (wCall F_is_integer (wCons (wVar 0) wNil)) (wChain dLe dLe (wVar 1) (wVar 0) (wVar 2))))
def N_L_pick : List Str := ["_law_urn_here", "_law_items"]
def w_L_pick : WS := (sRet (xBin fIdx (wVar 1) (wCall F_L_ball (wCons (wVar 0) (wCons (w1 dLen (wVar 1)) wNil)))))
def N_is_cap : List Str := ["value"]
def w_is_cap : WS := (sRet (wCall F_is_from (wCons (wVar 0) (wCons (W.ret (.int 1)) (wCons (W.ret (.int 9)) wNil)))))
def N_is_line : List Str := ["cap", "value", "cell"]
def w_is_line : WS := (sSeq (sIf (tOrP (tNotP (wTest (w1 (dIsi "tuple") (wVar 1)))) (tNotP (wTest (wChain dLe dLe (W.ret (.int 1)) (w1 dLen (wVar 1)) (W.ret (.int 12)))))) (sRet (W.ret (.bl false))) sNil) (sRet (x1 fAll (wLst (wComp (wItems (wVar 1)) (gNm 2) (W.ret true) (wCall F_is_from (wCons (wVar 2) (wCons (W.ret (.int 0)) (wCons (wVar 0) wNil)))) [2])))))
def N_are_lines : List Str := ["cap", "lines", "line"]
def w_are_lines : WS := (sSeq (sIf (tOrP (tNotP (wTest (wCall F_is_cap (wCons (wVar 0) wNil)))) (tOrP (tNotP (wTest (wChain dLe dLe (W.ret (.int 1)) (w1 dLen (wVar 1)) (W.ret (.int 12))))) (tNotP (wTest (x1 fAll (wLst (wComp (wItems (wVar 1)) (gNm 2) (W.ret true) (wCall F_is_line (wCons (wVar 0) (wCons (wVar 2) wNil))) [2]))))))) (sRet (W.ret (.bl false))) sNil) (sRet (x1 fAll (wLst (wComp (wItems (wVar 1)) (gNm 2) (W.ret true) (xBin fEq (w1 dLen (wVar 2)) (w1 dLen (xBin fIdx (wVar 1) (W.ret (.int 0))))) [2])))))
def N_Table_init : List Str := ["self", "cap", "lines"]
def w_Table_init : WS := (sSeq (sIf (tNotP (wTest (wCall F_are_lines (wCons (wVar 1) (wCons (wVar 2) wNil))))) (sRaise "InvalidTable") sNil) (sSeq (sFldO 0 "Table" "own_cap" (wVar 1)) (sFldO 0 "Table" "own_lines" (wVar 2))))
def N_Table_of : List Str := ["cls", "cap", "lines"]
def w_Table_of : WS := (sSeq (sIf (tNotP (wTest (w1 (dIsi "tuple") (wVar 2)))) (sRaise "InvalidTable") sNil) (sRet (wMakeL 0 "Table" I_Table (wCons (wVar 1) (wStar (wVar 2) wNil)))))
def N_Table_line_sums : List Str := ["self", "line"]
def w_Table_line_sums : WS := (sRet (w1 dTuple (wLst (wComp (wItems (wFld "Table" "own_lines" (wVar 0))) (gNm 1) (W.ret true) (x1 fSum (wVar 1)) [1]))))
def N_Table_column_sums : List Str := ["self", "column"]
def w_Table_column_sums : WS := (sRet (w1 dTuple (wLst (wComp (wZipS (wFld "Table" "own_lines" (wVar 0))) (gNm 1) (W.ret true) (x1 fSum (wVar 1)) [1]))))
def N_require_index : List Str := ["value", "size"]
def w_require_index : WS := (sIf (tNotP (wTest (wCall F_is_from (wCons (wVar 0) (wCons (W.ret (.int 0)) (wCons (wBin dSub (wVar 1) (W.ret (.int 1))) wNil)))))) (sRaiseV "InvalidNumber" "value" (wVar 0)) sNil)
end Ta

namespace Ta
open PySem PySem.Spec PyProof.Rows L2 LamX Pd
theorem pure_is_integer (ds : List D) (Q : D → Prop) (Ex : Xc → Prop) (h : F_is_integer ds Q Ex) : w_is_integer (dEnds Q Ex) (startE N_is_integer ds) := Pd.pure_is_integer ds Q Ex h
theorem len_is_integer (ds : List D) (Q : D → Prop) (Ex : Xc → Prop) (h : F_is_integer ds Q Ex) : ds.length = 1 := by
  obtain ⟨x, rfl, _⟩ := h
  rfl
theorem pure_is_from (ds : List D) (Q : D → Prop) (Ex : Xc → Prop) (h : F_is_from ds Q Ex) : w_is_from (dEnds Q Ex) (startE N_is_from ds) := Pd.pure_is_from ds Q Ex h
theorem len_is_from (ds : List D) (Q : D → Prop) (Ex : Xc → Prop) (h : F_is_from ds Q Ex) : ds.length = 3 := by
  obtain ⟨x, a, b, rfl, _⟩ := h
  rfl
theorem log_lt {n : Int} (h0 : 0 < n) (h : n < 2 ^ 200) : n.natAbs.log2 < 9000 := by
  have h1 : n.natAbs < 2 ^ 200 := by
    have : (n.natAbs : Int) = n := Int.natAbs_of_nonneg (by omega)
    omega
  exact Nat.lt_of_lt_of_le (PySem.Flt.log2_lt_of (by decide) h1) (by decide)
theorem bok0 {g : Int} (h : bokB 0 g) : 0 ≤ g ∧ g < 2 ^ 4000 := ⟨h.1, by
  rcases h.2 with b | b | b
  · exact b.2
  · exact absurd b.1 (by decide)
  · exact absurd b (by decide)⟩
theorem atI_nat {α : Type} {xs : List α} {r : Int} {x : α} (h0 : 0 ≤ r) (h : xs[r.toNat]? = some x) : atI xs r = some x := by
  have hl := (List.getElem?_eq_some_iff.mp h).1
  unfold atI ixN
  rw [if_pos h0, if_pos (by omega)]
  exact h
theorem idx_items {x : D} {xs : List D} {r : Int} {y : D} (hx : dItems x = some xs) (h0 : 0 ≤ r) (h : xs[r.toNat]? = some y) : dIdx x (.int r) = some y := by
  cases x with
  | lst ys =>
    cases hx
    exact atI_nat h0 h
  | tup ys =>
    cases hx
    exact atI_nat h0 h
  | _ => cases hx
theorem items_or {x : D} {xs : List D} (hx : dItems x = some xs) : x = .lst xs ∨ x = .tup xs := by
  cases x with
  | lst ys =>
    cases hx
    exact .inl rfl
  | tup ys =>
    cases hx
    exact .inr rfl
  | _ => cases hx
theorem pure_L_pick (ds : List D) (Q : D → Prop) (Ex : Xc → Prop) (h : F_L_pick ds Q Ex) : w_L_pick (dEnds Q Ex) (startE N_L_pick ds) := by
  obtain ⟨p, x, xs, rfl, hx, ne, hl, q⟩ := h
  have l0 : 0 < xs.length := List.length_pos_iff.mpr ne
  have key : ∀ r : Int, 0 ≤ r → r < xs.length → ∃ z, dIdx x (.int r) = some z ∧ Q z := fun r h0 h1 => by
    have hr : r.toNat < xs.length := by omega
    exact ⟨_, idx_items hx h0 (List.getElem?_eq_getElem hr), q _ (List.getElem_mem hr)⟩
  rcases items_or hx with rfl | rfl
  · exact ⟨p, _, rfl, by omega, by omega, key⟩
  · exact ⟨p, _, rfl, by omega, by omega, key⟩
theorem len_L_pick (ds : List D) (Q : D → Prop) (Ex : Xc → Prop) (h : F_L_pick ds Q Ex) : ds.length = 2 := by
  obtain ⟨p, x, xs, rfl, _⟩ := h
  rfl
theorem scr_at {ns : List Int} {i : Int} (h0 : 0 ≤ i) (h : i < ns.length) : ∃ n, dIdx (.scr ns) (.int i) = some (.int n) := by
  have hr : i.toNat < ns.length := by omega
  refine ⟨ns[i.toNat], ?_⟩
  show (atI ns i).map D.int = _
  rw [atI_nat h0 (List.getElem?_eq_getElem hr)]
  rfl
theorem box_ok {g m : Int} (h0 : 0 < m) (h : m ≤ 2 ^ 4000) (c : Int) (hc : 0 ≤ c) : 0 ≤ (if g % m - c > 0 then g % m - c else 0) ∧ (if g % m - c > 0 then g % m - c else 0) < 2 ^ 4000 := by
  have a := Int.emod_nonneg g (show m ≠ 0 by omega)
  have b := Int.emod_lt_of_pos g h0
  have p : (0 : Int) < 2 ^ 4000 := by decide
  split
  · omega
  · exact ⟨Int.le_refl _, p⟩
end Ta

namespace Ta
open PySem PySem.Spec PyProof.Rows L2 LamX Pd
theorem le_chain {a b c : Int} (h1 : a ≤ b) (h2 : b ≤ c) : (decide (a ≤ b) && decide (b ≤ c)) = true := by
  rw [decide_eq_true h1, decide_eq_true h2]
  rfl
theorem pure_is_cap (ds : List D) (Q : D → Prop) (Ex : Xc → Prop) (h : F_is_cap ds Q Ex) : w_is_cap (dEnds Q Ex) (startE N_is_cap ds) := by
  obtain ⟨c, rfl, h1, h9, q⟩ := h
  refine ⟨.int c, 1, 9, rfl, rfl, ?_⟩
  rw [show inR (.int c) 1 9 = true from le_chain h1 h9]
  exact q
theorem len_is_cap (ds : List D) (Q : D → Prop) (Ex : Xc → Prop) (h : F_is_cap ds Q Ex) : ds.length = 1 := by
  obtain ⟨x, rfl, _⟩ := h
  rfl
theorem all_true {α : Type} {l : List α} {f : α → Bool} (h : ∀ x ∈ l, f x = true) : (l.map f).all id = true := by
  rw [List.all_map]
  exact List.all_eq_true.mpr h
theorem pure_is_line (ds : List D) (Q : D → Prop) (Ex : Xc → Prop) (h : F_is_line ds Q Ex) : w_is_line (dEnds Q Ex) (startE N_is_line ds) := by
  obtain ⟨c, r, rfl, l1, l12, hr, q⟩ := h
  have el : ((r.map D.int).length : Int) = (r.length : Int) := by rw [List.length_map]
  refine br_ff rfl (br_if (fun _ => br_no (br_if (fun _ => ?_) fun h => absurd (show ((r.map D.int).length : Int) ≤ 12 by omega) h)) (fun h => absurd (show (1 : Int) ≤ ((r.map D.int).length : Int) by omega) h))
  refine comp_all (fun s => [some (.d (.int c)), some (.d (Ti r)), s]) D.int (fun x => .bl (inR (.int x) 0 c)) r none [] (fun _ _ => rfl) (fun x hx K ex k => ⟨.int x, 0, c, rfl, rfl, k⟩) fun s => ?_
  refine ⟨r.map fun x => inR (.int x) 0 c, by rw [List.nil_append, List.map_map]; rfl, ?_⟩
  rw [all_true (f := fun x => Pd.inR (.int x) 0 c) fun x hx => le_chain (hr x hx).1 (hr x hx).2]
  exact q
theorem len_is_line (ds : List D) (Q : D → Prop) (Ex : Xc → Prop) (h : F_is_line ds Q Ex) : ds.length = 2 := by
  obtain ⟨c, r, rfl, _⟩ := h
  rfl
theorem pure_are_lines (ds : List D) (Q : D → Prop) (Ex : Xc → Prop) (h : F_are_lines ds Q Ex) : w_are_lines (dEnds Q Ex) (startE N_are_lines ds) := by
  obtain ⟨c, rs, rfl, t, q⟩ := h
  obtain ⟨m, m1, m12, hm⟩ := t.w
  have l1 := t.l1
  have l12 := t.l12
  have el : ((rs.map Ti).length : Int) = (rs.length : Int) := by rw [List.length_map]
  refine ⟨c, rfl, t.c1, t.c9, br_ff rfl (br_if (fun _ => br_no (br_if (fun _ => ?_) fun h => absurd (show ((rs.map Ti).length : Int) ≤ 12 by omega) h)) (fun h => absurd (show (1 : Int) ≤ ((rs.map Ti).length : Int) by omega) h))⟩
  refine comp_all (fun s => [some (.d (.int c)), some (.d (lnD rs)), s]) Ti (fun _ => .bl true) rs none [] (fun _ _ => rfl) (fun r hr K ex k => ⟨c, r, rfl, by rw [hm r hr]; exact m1, by rw [hm r hr]; exact m12, t.ce r hr, k⟩) fun s => ?_
  refine ⟨rs.map fun _ => true, by rw [List.nil_append, List.map_map]; rfl, ?_⟩
  rw [all_true fun _ _ => rfl]
  refine br_ff rfl ?_
  refine comp_all (fun s => [some (.d (.int c)), some (.d (lnD rs)), s]) Ti (fun _ => .bl true) rs _ [] (fun _ _ => rfl) (fun r hr K ex k => ?_) fun s => ?_
  · have h0 : 0 < rs.length := by omega
    refine ⟨_, idx_items (x := lnD rs) rfl (by decide) (show (rs.map Ti)[0]? = some (Ti rs[0]) by rw [List.getElem?_map, List.getElem?_eq_getElem h0]; rfl), rfl, ?_⟩
    have e : eqb (.int ((r.map D.int).length : Int)) (.int ((rs[0].map D.int).length : Int)) = true := by
      show decide _ = true
      rw [List.length_map, List.length_map, hm r hr, hm _ (List.getElem_mem h0)]
      exact decide_eq_true rfl
    rw [e]
    exact k
  · refine ⟨rs.map fun _ => true, by rw [List.nil_append, List.map_map]; rfl, ?_⟩
    rw [all_true fun _ _ => rfl]
    exact q
theorem len_are_lines (ds : List D) (Q : D → Prop) (Ex : Xc → Prop) (h : F_are_lines ds Q Ex) : ds.length = 2 := by
  obtain ⟨c, r, rfl, _⟩ := h
  rfl
theorem pure_Table_init (p : Addr) (ds : List D) (P : List (Str × D) → Prop) (Ex : Xc → Prop) (h : F_Table_init ds P Ex) : w_Table_init (iEnds p "Table" P Ex) (startI N_Table_init p "Table" ds) := by
  obtain ⟨c, rs, rfl, t, q⟩ := h
  refine ⟨c, rs, rfl, t, br_ff rfl ?_⟩
  exact ⟨rfl, List.not_mem_nil, Nat.le_of_ble_eq_true rfl, rfl, (by show ¬ ("own_lines" : Str) ∈ [("own_cap" : Str)]; decide), Nat.le_of_ble_eq_true rfl, rfl, rfl, q⟩
theorem pure_Table_of (ds : List D) (Q : D → Prop) (Ex : Xc → Prop) (h : F_Table_of ds Q Ex) : w_Table_of (dEnds Q Ex) (startE N_Table_of ds) := by
  obtain ⟨c, rs, rfl, t, q⟩ := h
  have l12 := t.l12
  refine br_ff rfl ⟨rfl, ?_, ?_, c, rs, ?_, t, q⟩
  · show 1 ≤ ([D.int c] ++ (rs.map Ti ++ [])).length
    simp
  · show ([D.int c] ++ (rs.map Ti ++ [])).length ≤ 1000000
    rw [List.append_nil, List.length_append, List.length_map]
    show 1 + rs.length ≤ 1000000
    omega
  · show [D.int c] ++ [D.tup (rs.map Ti ++ [])] = _
    rw [List.append_nil]
    rfl
theorem len_Table_of (ds : List D) (Q : D → Prop) (Ex : Xc → Prop) (h : F_Table_of ds Q Ex) : ds.length = 3 := by
  obtain ⟨c, r, rfl, _⟩ := h
  rfl
end Ta

namespace Ta
open PySem PySem.Spec PyProof.Rows L2 LamX Pd
theorem wd_of {c : Int} {rs : List (List Int)} (t : Tb c rs) : 1 ≤ wd rs ∧ wd rs ≤ 12 ∧ ∀ r ∈ rs, r.length = wd rs := by
  obtain ⟨m, m1, m12, hm⟩ := t.w
  have l1 := t.l1
  cases rs with
  | nil => simp at l1
  | cons r rs =>
    have e : wd (r :: rs) = m := hm r List.mem_cons_self
    rw [e]
    exact ⟨m1, m12, hm⟩
theorem items_rows : ∀ rs : List (List Int), itemsAll (rs.map Ti) = some (rs.map fun r => r.map D.int)
  | [] => rfl
  | r :: rs => by
    rw [List.map_cons]
    unfold itemsAll
    rw [items_rows rs]
    rfl
theorem min_rows {m : Nat} : ∀ {rs : List (List Int)}, rs ≠ [] → (∀ r ∈ rs, r.length = m) → minLen (rs.map fun r => r.map D.int) = m
  | [], h, _ => absurd rfl h
  | [r], _, h => by
    show (r.map D.int).length = m
    rw [List.length_map, h r List.mem_cons_self]
  | r :: r' :: rs, _, h => by
    have ih := min_rows (rs := r' :: rs) (by simp) fun x hx => h x (List.mem_cons_of_mem _ hx)
    show min (r.map D.int).length (minLen ((r' :: rs).map fun r => r.map D.int)) = m
    rw [ih, List.length_map, h r List.mem_cons_self, Nat.min_self]
theorem col_rows {j : Nat} {rs : List (List Int)} (h : ∀ r ∈ rs, j < r.length) : colD (rs.map fun r => r.map D.int) j = (colI rs j).map D.int := by
  unfold colD colI
  rw [List.map_map, List.map_map]
  refine List.map_congr_left fun r hr => ?_
  have := h r hr
  show ((r.map D.int)[j]?.getD D.non) = D.int (r.getD j 0)
  rw [List.getElem?_map, List.getD_eq_getElem?_getD, List.getElem?_eq_getElem this]
  rfl
theorem cols_rows {c : Int} {rs : List (List Int)} (t : Tb c rs) : colsD (rs.map fun r => r.map D.int) = (flip rs).map Ti := by
  obtain ⟨w1, w12, hw⟩ := wd_of t
  have l1 := t.l1
  unfold colsD flip
  rw [min_rows (m := wd rs) (fun z => by rw [z] at l1; simp at l1) hw, List.map_map]
  refine List.map_congr_left fun j hj => ?_
  have := List.mem_range.mp hj
  show D.tup _ = Ti _
  rw [col_rows fun r hr => by rw [hw r hr]; exact this]
theorem pure_Table_line_sums (ds : List D) (Q : D → Prop) (Ex : Xc → Prop) (h : F_Table_line_sums ds Q Ex) : w_Table_line_sums (dEnds Q Ex) (startE N_Table_line_sums ds) := by
  obtain ⟨c, rs, rfl, t, q⟩ := h
  refine ⟨rfl, _, rfl, ?_⟩
  refine comp_all (fun s => [some (.d (tbD c rs)), s]) Ti (fun r => .int r.sum) rs none [] (fun _ _ => rfl) (fun r hr K ex k => ⟨r, rfl, k⟩) fun s => ?_
  have e : Ti (lsum rs) = .tup (rs.map fun r => D.int r.sum) := by
    unfold lsum
    show D.tup (List.map _ (List.map _ _)) = _
    rw [List.map_map]
    rfl
  rw [e] at q
  exact q
theorem len_Table_line_sums (ds : List D) (Q : D → Prop) (Ex : Xc → Prop) (h : F_Table_line_sums ds Q Ex) : ds.length = 1 := by
  obtain ⟨c, rs, rfl, _⟩ := h
  rfl
theorem pure_Table_column_sums (ds : List D) (Q : D → Prop) (Ex : Xc → Prop) (h : F_Table_column_sums ds Q Ex) : w_Table_column_sums (dEnds Q Ex) (startE N_Table_column_sums ds) := by
  obtain ⟨c, rs, rfl, t, q⟩ := h
  have l1 := t.l1
  have l12 := t.l12
  refine ⟨rfl, _, rfl, ?_⟩
  refine ⟨_, _, rfl, items_rows rs, fun z => ?_, by rw [List.length_map]; omega, ?_⟩
  · have := congrArg List.length z
    rw [List.length_map] at this
    simp at this
    rw [this] at l1
    simp at l1
  rw [cols_rows t]
  refine comp_all (fun s => [some (.d (tbD c rs)), s]) Ti (fun r => .int r.sum) (flip rs) none [] (fun _ _ => rfl) (fun r hr K ex k => ⟨r, rfl, k⟩) fun s => ?_
  have e : Ti (csum rs) = .tup ((flip rs).map fun r => D.int r.sum) := by
    unfold csum
    show D.tup (List.map _ (List.map _ _)) = _
    rw [List.map_map]
    rfl
  rw [e] at q
  exact q
theorem len_Table_column_sums (ds : List D) (Q : D → Prop) (Ex : Xc → Prop) (h : F_Table_column_sums ds Q Ex) : ds.length = 1 := by
  obtain ⟨c, rs, rfl, _⟩ := h
  rfl
end Ta

namespace Eu
def S (n : Nat) (f : Nat → Nat) : Nat := ((List.range n).map f).sum
theorem S_succ {n : Nat} {f : Nat → Nat} : S (n + 1) f = S n f + f n := by
  unfold S
  rw [List.range_succ, List.map_append, List.sum_append]
  simp
theorem S_add {n : Nat} {f g : Nat → Nat} : S n (fun j => f j + g j) = S n f + S n g := by
  induction n with
  | zero => rfl
  | succ n ih => rw [S_succ, S_succ, S_succ, ih]; omega
theorem S_congr {n : Nat} {f g : Nat → Nat} (h : ∀ j, j < n → f j = g j) : S n f = S n g := by
  unfold S
  rw [List.map_congr_left fun x hx => h x (List.mem_range.mp hx)]
theorem S_zero {n : Nat} {f : Nat → Nat} (h : ∀ j, j < n → f j = 0) : S n f = 0 := by
  induction n with
  | zero => rfl
  | succ n ih => rw [S_succ, ih fun j hj => h j (by omega), h n (by omega)]
theorem S_one {n i : Nat} (h : i < n) : S n (fun j => if j = i then 1 else 0) = 1 := by
  induction n with
  | zero => omega
  | succ n ih =>
    rw [S_succ]
    by_cases e : n = i
    · subst e
      rw [S_zero fun j hj => if_neg (by omega), if_pos rfl]
    · rw [ih (by omega), if_neg e]
theorem S_const {n : Nat} : S n (fun _ => 1) = n := by
  induction n with
  | zero => rfl
  | succ n ih => rw [S_succ, ih]
theorem S_le {n : Nat} {f g : Nat → Nat} (h : ∀ j, j < n → f j ≤ g j) : S n f ≤ S n g := by
  induction n with
  | zero => exact Nat.le_refl _
  | succ n ih =>
    rw [S_succ, S_succ]
    have := ih fun j hj => h j (by omega)
    have := h n (by omega)
    omega
theorem S_lt {n i : Nat} {f g : Nat → Nat} (h : ∀ j, j < n → f j ≤ g j) (hi : i < n) (hl : f i < g i) : S n f < S n g := by
  induction n with
  | zero => omega
  | succ n ih =>
    rw [S_succ, S_succ]
    by_cases e : i = n
    · subst e
      have := S_le (n := i) (f := f) (g := g) fun j hj => h j (by omega)
      omega
    · have := ih (fun j hj => h j (by omega)) (by omega)
      have := h n (by omega)
      omega
theorem len_S {n : Nat} {p : Nat → Bool} : ((List.range n).filter p).length = S n (fun j => if p j then 1 else 0) := by
  induction n with
  | zero => rfl
  | succ n ih =>
    rw [S_succ, List.range_succ, List.filter_append, List.length_append, ih]
    cases h : p n <;> simp [h]
theorem cnt_app (L : List (Nat × Nat)) (a o i j : Nat) : (L ++ [(a, o)]).count (i, j) = L.count (i, j) + if i = a ∧ j = o then 1 else 0 := by
  rw [List.count_append, List.count_singleton]
  congr 1
  by_cases h : i = a ∧ j = o
  · rw [h.1, h.2]; simp
  · rw [if_neg h, if_neg]
    intro z
    have := eq_of_beq z
    exact h ⟨(congrArg Prod.fst this).symm, (congrArg Prod.snd this).symm⟩
structure St (n : Nat) (op left : Nat → List Nat) (L : List (Nat × Nat)) (s a : Nat) : Prop where
  nd : ∀ i, (left i).Nodup
  sy : ∀ i j, j ∈ left i → i ∈ left j
  lt : ∀ i j, j ∈ left i → i < n ∧ j < n ∧ i ≠ j
  ct : ∀ i j, L.count (i, j) + L.count (j, i) + (if j ∈ left i then 1 else 0) = if j ∈ op i then 1 else 0
  bal : ∀ v, S n (fun j => L.count (v, j)) + (if v = a then 1 else 0) = S n (fun j => L.count (j, v)) + (if v = s then 1 else 0)
  par : ∀ v, ((left v).length + (if v = s then 1 else 0) + (if v = a then 1 else 0)) % 2 = 0
  lb : ∀ q ∈ L, q.1 < n ∧ q.2 < n
def out (left : Nat → List Nat) (a o : Nat) : Nat → List Nat := fun v => if v = o then (left o).filter (fun x => decide (x ≠ a)) else if v = a then (left a).dropLast else left v
theorem last_nd {l : List Nat} {o : Nat} (nd : l.Nodup) (h : l.getLast? = some o) : ∀ x, x ∈ l.dropLast ↔ x ∈ l ∧ x ≠ o := by
  have e : l = l.dropLast ++ [o] := by
    obtain ⟨ys, e⟩ := List.getLast?_eq_some_iff.mp h
    subst e
    simp
  intro x
  constructor
  · intro hx
    refine ⟨(List.dropLast_sublist l).subset hx, fun z => ?_⟩
    subst z
    rw [e] at nd
    exact (List.nodup_append.mp nd).2.2 x hx x (List.mem_singleton.mpr rfl) rfl
  · rintro ⟨hx, ne⟩
    rw [e] at hx
    rcases List.mem_append.mp hx with hx | hx
    · exact hx
    · exact absurd (List.mem_singleton.mp hx) ne
theorem filt_len {l : List Nat} {a : Nat} (nd : l.Nodup) (h : a ∈ l) : (l.filter (fun x => decide (x ≠ a))).length + 1 = l.length := by
  induction l with
  | nil => cases h
  | cons x l ih =>
    obtain ⟨n1, n2⟩ := List.nodup_cons.mp nd
    by_cases e : x = a
    · subst e
      have : (l.filter (fun y => decide (y ≠ x))) = l := List.filter_eq_self.mpr fun y hy => decide_eq_true fun z => n1 (z ▸ hy)
      rw [List.filter_cons_of_neg (by simp), this]
      rfl
    · rw [List.filter_cons_of_pos (by simpa using e)]
      rcases List.mem_cons.mp h with z | z
      · exact absurd z.symm e
      · rw [List.length_cons, List.length_cons, ih n2 z]
section
variable {n : Nat} {op left : Nat → List Nat} {L : List (Nat × Nat)} {s a o : Nat}
theorem out_mem (h : St n op left L s a) (ho : (left a).getLast? = some o) (i j : Nat) : j ∈ out left a o i ↔ j ∈ left i ∧ ¬ (i = a ∧ j = o) ∧ ¬ (i = o ∧ j = a) := by
  have hm : o ∈ left a := List.mem_of_getLast? ho
  have ne : a ≠ o := (h.lt a o hm).2.2
  unfold out
  by_cases e : i = o
  · subst e
    rw [if_pos rfl, List.mem_filter, decide_eq_true_eq]
    constructor
    · rintro ⟨h1, h2⟩
      exact ⟨h1, fun z => ne z.1.symm, fun z => h2 z.2⟩
    · rintro ⟨h1, _, h3⟩
      exact ⟨h1, fun z => h3 ⟨rfl, z⟩⟩
  · rw [if_neg e]
    by_cases e2 : i = a
    · subst e2
      rw [if_pos rfl, last_nd (h.nd i) ho]
      constructor
      · rintro ⟨h1, h2⟩
        exact ⟨h1, fun z => h2 z.2, fun z => e z.1⟩
      · rintro ⟨h1, h2, _⟩
        exact ⟨h1, fun z => h2 ⟨rfl, z⟩⟩
    · rw [if_neg e2]
      exact ⟨fun h1 => ⟨h1, fun z => e2 z.1, fun z => e z.1⟩, fun h1 => h1.1⟩
theorem out_len (h : St n op left L s a) (ho : (left a).getLast? = some o) (v : Nat) : (out left a o v).length + ((if v = a then 1 else 0) + (if v = o then 1 else 0)) = (left v).length := by
  have hm : o ∈ left a := List.mem_of_getLast? ho
  have ne : a ≠ o := (h.lt a o hm).2.2
  unfold out
  by_cases e : v = o
  · subst e
    rw [if_pos rfl, if_neg (fun z => ne z.symm), if_pos rfl, Nat.zero_add]
    exact filt_len (h.nd v) (h.sy a v hm)
  · rw [if_neg e, if_neg e]
    by_cases e2 : v = a
    · subst e2
      rw [if_pos rfl, if_pos rfl, List.length_dropLast]
      have : 0 < (left v).length := List.length_pos_of_mem hm
      omega
    · rw [if_neg e2, if_neg e2]
      rfl
theorem out_lt (h : St n op left L s a) (ho : (left a).getLast? = some o) : S n (fun v => (out left a o v).length) < S n (fun v => (left v).length) := by
  have hm : o ∈ left a := List.mem_of_getLast? ho
  refine S_lt (i := a) (fun v _ => ?_) (h.lt a o hm).1 ?_
  · have := out_len h ho v
    omega
  · have := out_len h ho a
    rw [if_pos rfl] at this
    omega
theorem St.step (h : St n op left L s a) (ho : (left a).getLast? = some o) : St n op (out left a o) (L ++ [(a, o)]) s o := by
  have hm : o ∈ left a := List.mem_of_getLast? ho
  obtain ⟨la, lo, ne⟩ := h.lt a o hm
  have mm := out_mem h ho
  refine ⟨fun i => ?_, fun i j hj => ?_, fun i j hj => h.lt i j ((mm i j).mp hj).1, fun i j => ?_, fun v => ?_, fun v => ?_, fun q hq => ?_⟩
  · unfold out
    split
    · exact (h.nd o).filter _
    · split
      · exact (h.nd a).sublist (List.dropLast_sublist _)
      · exact h.nd i
  · obtain ⟨h1, h2, h3⟩ := (mm i j).mp hj
    exact (mm j i).mpr ⟨h.sy i j h1, fun z => h3 ⟨z.2, z.1⟩, fun z => h2 ⟨z.2, z.1⟩⟩
  · have c := h.ct i j
    rw [cnt_app, cnt_app]
    by_cases c1 : i = a ∧ j = o
    · obtain ⟨rfl, rfl⟩ := c1
      rw [if_pos hm] at c
      rw [if_pos ⟨rfl, rfl⟩, if_neg (fun z => ne z.2), if_neg (fun z => ((mm i j).mp z).2.1 ⟨rfl, rfl⟩)]
      omega
    · by_cases c2 : i = o ∧ j = a
      · obtain ⟨rfl, rfl⟩ := c2
        rw [if_pos (h.sy j i hm)] at c
        rw [if_neg c1, if_pos ⟨rfl, rfl⟩, if_neg (fun z => ((mm i j).mp z).2.2 ⟨rfl, rfl⟩)]
        omega
      · rw [if_neg c1, if_neg (fun z => c2 ⟨z.2, z.1⟩)]
        have : (j ∈ out left a o i) ↔ (j ∈ left i) := by
          rw [mm]
          exact ⟨fun z => z.1, fun z => ⟨z, c1, c2⟩⟩
        by_cases z : j ∈ left i
        · rw [if_pos (this.mpr z)]
          rw [if_pos z] at c
          omega
        · rw [if_neg (fun y => z (this.mp y))]
          rw [if_neg z] at c
          omega
  · have e1 : S n (fun j => (L ++ [(a, o)]).count (v, j)) = S n (fun j => L.count (v, j)) + if v = a then 1 else 0 := by
      rw [S_congr fun j _ => cnt_app L a o v j, S_add]
      congr 1
      by_cases z : v = a
      · rw [if_pos z, S_congr fun j _ => (show (if v = a ∧ j = o then 1 else 0) = if j = o then 1 else 0 by simp [z]), S_one lo]
      · rw [if_neg z, S_zero fun j _ => if_neg fun y => z y.1]
    have e2 : S n (fun j => (L ++ [(a, o)]).count (j, v)) = S n (fun j => L.count (j, v)) + if v = o then 1 else 0 := by
      rw [S_congr fun j _ => cnt_app L a o j v, S_add]
      congr 1
      by_cases z : v = o
      · rw [if_pos z, S_congr fun j _ => (show (if j = a ∧ v = o then 1 else 0) = if j = a then 1 else 0 by simp [z]), S_one la]
      · rw [if_neg z, S_zero fun j _ => if_neg fun y => z y.2]
    rw [e1, e2]
    have := h.bal v
    omega
  · have p := h.par v
    have q := out_len h ho v
    omega
  · rcases List.mem_append.mp hq with hq | hq
    · exact h.lb q hq
    · rw [List.mem_singleton.mp hq]
      exact ⟨la, lo⟩
theorem St.back (h : St n op left L s a) (he : left a = []) : a = s := by
  have p := h.par a
  rw [he, if_pos rfl] at p
  by_cases z : a = s
  · exact z
  · rw [if_neg z] at p
    simp at p
theorem St.next (h : St n op left L s s) (t : Nat) : St n op left L t t := ⟨h.nd, h.sy, h.lt, h.ct, fun v => by have := h.bal v; omega, fun v => by have := h.par v; omega, h.lb⟩
structure Og (n : Nat) (op : Nat → List Nat) : Prop where
  nd : ∀ i, (op i).Nodup
  sy : ∀ i j, j ∈ op i → i ∈ op j
  lt : ∀ i j, j ∈ op i → i < n ∧ j < n ∧ i ≠ j
  ev : ∀ i, (op i).length % 2 = 0
theorem Og.start (h : Og n op) (t : Nat) : St n op op [] t t := ⟨h.nd, h.sy, h.lt, fun i j => by simp, fun v => by simp, fun v => by have := h.ev v; split <;> omega, fun q hq => by cases hq⟩
structure Ev (n : Nat) (op : Nat → List Nat) (L : List (Nat × Nat)) : Prop where
  ct : ∀ i j, L.count (i, j) + L.count (j, i) = if j ∈ op i then 1 else 0
  bal : ∀ v, S n (fun j => L.count (v, j)) = S n (fun j => L.count (j, v))
  lb : ∀ q ∈ L, q.1 < n ∧ q.2 < n
theorem St.done (h : St n op left L s s) (he : ∀ i, i < n → left i = []) : Ev n op L := by
  refine ⟨fun i j => ?_, fun v => by have := h.bal v; omega, h.lb⟩
  have c := h.ct i j
  rw [if_neg fun z => by
    have := (h.lt i j z).1
    rw [he i this] at z
    cases z] at c
  exact c
end
def bi (b : Bool) : Nat := if b then 1 else 0
structure Hf (n : Nat) (b : Nat → Nat → Bool) : Prop where
  dg : ∀ i, i < n → b i i = false
  sm : ∀ i, i < n → S n (fun j => bi (b i j)) + S n (fun j => bi (b j i)) + 1 = n
def opn (n : Nat) (b : Nat → Nat → Bool) (i : Nat) : List Nat := if i < n then (List.range n).filter (fun j => decide (j ≠ i) && (b i j == b j i)) else []
def won (n : Nat) (b : Nat → Nat → Bool) (i : Nat) : List Nat := (List.range n).filter (fun j => b i j && !b j i)
theorem opn_mem {n : Nat} {b : Nat → Nat → Bool} {i j : Nat} : j ∈ opn n b i ↔ i < n ∧ j < n ∧ j ≠ i ∧ b i j = b j i := by
  unfold opn
  split
  · rename_i hi
    rw [List.mem_filter, List.mem_range, Bool.and_eq_true, decide_eq_true_eq, beq_iff_eq]
    exact ⟨fun h => ⟨hi, h.1, h.2.1, h.2.2⟩, fun h => ⟨h.2.1, h.2.2.1, h.2.2.2⟩⟩
  · rename_i hi
    exact ⟨fun h => (by cases h), fun h => absurd h.1 hi⟩
theorem both {n : Nat} {b : Nat → Nat → Bool} (h : Hf n b) {i : Nat} (hi : i < n) : (opn n b i).length = 2 * S n (fun j => bi (b i j && b j i)) ∧ S n (fun j => bi (b i j)) = (won n b i).length + S n (fun j => bi (b i j && b j i)) := by
  have e0 : (opn n b i).length = S n (fun j => bi (decide (j ≠ i) && (b i j == b j i))) := by
    unfold opn
    rw [if_pos hi, len_S]
    rfl
  have e1 : (won n b i).length = S n (fun j => bi (b i j && !b j i)) := by
    unfold won
    rw [len_S]
    rfl
  have e2 : S n (fun j => bi (b i j)) = S n (fun j => bi (b i j && !b j i)) + S n (fun j => bi (b i j && b j i)) := by
    rw [← S_add]
    refine S_congr fun j _ => ?_
    cases b i j <;> cases b j i <;> rfl
  -- one, other, both, neither, oneself: all together n
  have e3 : S n (fun j => bi (b i j)) + S n (fun j => bi (b j i)) + S n (fun j => bi (decide (j ≠ i) && (b i j == b j i))) + 1 = n + 2 * S n (fun j => bi (b i j && b j i)) := by
    have k : S n (fun j => bi (b i j) + bi (b j i) + bi (decide (j ≠ i) && (b i j == b j i)) + (if j = i then 1 else 0)) = S n (fun j => 1 + (bi (b i j && b j i) + bi (b i j && b j i))) := by
      refine S_congr fun j hj => ?_
      by_cases z : j = i
      · subst z
        have := h.dg j hj
        simp [bi, this]
      · rw [if_neg z]
        have : decide (j ≠ i) = true := decide_eq_true z
        rw [this]
        cases b i j <;> cases b j i <;> rfl
    rw [S_add, S_add, S_add, S_add, S_add, S_const, S_one hi] at k
    omega
  have := h.sm i hi
  exact ⟨by omega, by omega⟩
theorem opn_og {n : Nat} {b : Nat → Nat → Bool} (h : Hf n b) : Og n (opn n b) := by
  refine ⟨fun i => ?_, fun i j hj => ?_, fun i j hj => ?_, fun i => ?_⟩
  · unfold opn
    split
    · exact List.nodup_range.filter _
    · exact List.nodup_nil
  · obtain ⟨h1, h2, h3, h4⟩ := opn_mem.mp hj
    exact opn_mem.mpr ⟨h2, h1, fun z => h3 z.symm, h4.symm⟩
  · obtain ⟨h1, h2, h3, h4⟩ := opn_mem.mp hj
    exact ⟨h1, h2, fun z => h3 z.symm⟩
  · by_cases hi : i < n
    · rw [(both h hi).1]
      omega
    · unfold opn
      rw [if_neg hi]
      rfl
def more (L : List (Nat × Nat)) (i : Nat) : List Nat := (L.filter (fun q => decide (q.1 = i))).map (·.2)
theorem more_mem {L : List (Nat × Nat)} {i j : Nat} : j ∈ more L i ↔ (i, j) ∈ L := by
  unfold more
  rw [List.mem_map]
  constructor
  · rintro ⟨q, hq, rfl⟩
    obtain ⟨h1, h2⟩ := List.mem_filter.mp hq
    have := of_decide_eq_true h2
    rw [← this]
    exact h1
  · intro h
    exact ⟨(i, j), List.mem_filter.mpr ⟨h, decide_eq_true rfl⟩, rfl⟩
theorem more_len {n : Nat} : ∀ (L : List (Nat × Nat)), (∀ q ∈ L, q.1 < n ∧ q.2 < n) → ∀ i, (more L i).length = S n (fun j => L.count (i, j))
  | [], _, i => by
    rw [S_zero fun j _ => by simp]
    rfl
  | (a, o) :: L, h, i => by
    have ih := more_len L (fun q hq => h q (List.mem_cons_of_mem _ hq)) i
    have lo := (h (a, o) List.mem_cons_self).2
    have e : S n (fun j => ((a, o) :: L).count (i, j)) = S n (fun j => L.count (i, j)) + if i = a then 1 else 0 := by
      have : ∀ j, ((a, o) :: L).count (i, j) = L.count (i, j) + if i = a ∧ j = o then 1 else 0 := fun j => by
        rw [List.count_cons]
        congr 1
        by_cases z : i = a ∧ j = o
        · rw [z.1, z.2]; simp
        · rw [if_neg z, if_neg]
          intro y
          have := eq_of_beq y
          exact z ⟨(congrArg Prod.fst this).symm, (congrArg Prod.snd this).symm⟩
      rw [S_congr fun j _ => this j, S_add]
      congr 1
      by_cases z : i = a
      · rw [if_pos z, S_congr fun j _ => (show (if i = a ∧ j = o then 1 else 0) = if j = o then 1 else 0 by simp [z]), S_one lo]
      · rw [if_neg z, S_zero fun j _ => if_neg fun y => z y.1]
    rw [e, ← ih]
    unfold more
    by_cases z : i = a
    · subst z
      rw [List.filter_cons_of_pos (by simp), List.map_cons, List.length_cons, if_pos rfl]
    · rw [List.filter_cons_of_neg (by simpa using fun y : a = i => z y.symm), if_neg z, Nat.add_zero]
theorem halved {n : Nat} {b : Nat → Nat → Bool} (h : Hf n b) {L : List (Nat × Nat)} (ev : Ev n (opn n b) L) :
    (∀ i, i < n → (won n b i ++ more L i).length = S n (fun j => bi (b i j))) ∧ (∀ i, i < n → (won n b i ++ more L i).Nodup) ∧ (∀ i j, i < n → j ∈ won n b i ++ more L i → j < n ∧ j ≠ i) ∧
    (∀ i j, i < n → j < n → i ≠ j → ((j ∈ won n b i ++ more L i) ↔ ¬ (i ∈ won n b j ++ more L j))) := by
  have wm : ∀ i j, j ∈ won n b i ↔ j < n ∧ b i j = true ∧ b j i = false := fun i j => by
    unfold won
    rw [List.mem_filter, List.mem_range, Bool.and_eq_true, Bool.not_eq_true']
  have om : ∀ {i j}, (i, j) ∈ L → j ∈ opn n b i := fun {i j} hm => by
    have c := ev.ct i j
    have : 0 < L.count (i, j) := List.count_pos_iff.mpr hm
    by_cases z : j ∈ opn n b i
    · exact z
    · rw [if_neg z] at c
      omega
  have once : ∀ {i j}, (i, j) ∈ L → (j, i) ∉ L := fun {i j} hm hm2 => by
    have c := ev.ct i j
    have h1 : 0 < L.count (i, j) := List.count_pos_iff.mpr hm
    have h2 : 0 < L.count (j, i) := List.count_pos_iff.mpr hm2
    split at c <;> omega
  have ndL : L.Nodup := List.nodup_iff_count.mpr fun q => by
    have c := ev.ct q.1 q.2
    have : L.count q = L.count (q.1, q.2) := rfl
    split at c <;> omega
  refine ⟨fun i hi => ?_, fun i hi => ?_, fun i j hi hj => ?_, fun i j hi hj ne => ?_⟩
  · rw [List.length_append, more_len L ev.lb i]
    have b2 := ev.bal i
    have sum : S n (fun j => L.count (i, j)) + S n (fun j => L.count (j, i)) = (opn n b i).length := by
      rw [← S_add, S_congr fun j _ => ev.ct i j]
      unfold opn
      rw [if_pos hi, len_S]
      refine S_congr fun j hj => ?_
      by_cases z : (decide (j ≠ i) && (b i j == b j i)) = true
      · rw [if_pos z, if_pos (List.mem_filter.mpr ⟨List.mem_range.mpr hj, z⟩)]
      · rw [if_neg z]
        refine if_neg fun y => z ?_
        have w := (List.mem_filter.mp y).2
        exact w
    have := both h hi
    omega
  · refine List.nodup_append.mpr ⟨List.nodup_range.filter _, ?_, fun x hx y hy z => ?_⟩
    · unfold more
      refine List.Pairwise.map _ (fun p q z => z) (R := fun p q : Nat × Nat => p.2 ≠ q.2) ?_
      refine List.Pairwise.imp_of_mem ?_ (List.Pairwise.filter _ ndL)
      intro p q hp hq ne z
      have e1 := of_decide_eq_true (List.mem_filter.mp hp).2
      have e2 := of_decide_eq_true (List.mem_filter.mp hq).2
      exact ne (Prod.ext (e1.trans e2.symm) z)
    · subst z
      have h1 := (wm i x).mp hx
      have h2 := (opn_mem.mp (om (more_mem.mp hy))).2.2.2
      rw [h1.2.1, h1.2.2] at h2
      cases h2
  · rcases List.mem_append.mp hj with hj | hj
    · have h1 := (wm i j).mp hj
      refine ⟨h1.1, fun z => ?_⟩
      subst z
      rw [h1.2.1] at h1
      cases h1.2.2
    · have h2 := opn_mem.mp (om (more_mem.mp hj))
      exact ⟨h2.2.1, h2.2.2.1⟩
  · rw [List.mem_append, List.mem_append, wm, wm, more_mem, more_mem]
    constructor
    · rintro (⟨_, h1, h2⟩ | h1) (⟨_, h3, h4⟩ | h3)
      · rw [h1] at h4; cases h4
      · have := (opn_mem.mp (om h3)).2.2.2
        rw [h1, h2] at this; cases this
      · have := (opn_mem.mp (om h1)).2.2.2
        rw [h3, h4] at this; cases this
      · exact once h1 h3
    · intro hn
      by_cases c1 : b i j = b j i
      · right
        have c := ev.ct i j
        rw [if_pos (opn_mem.mpr ⟨hi, hj, fun z => ne z.symm, c1⟩)] at c
        by_cases z : 0 < L.count (i, j)
        · exact List.count_pos_iff.mp z
        · exact absurd (.inr (List.count_pos_iff.mp (by omega))) hn
      · cases e1 : b i j with
        | true =>
          cases e2 : b j i with
          | true => rw [e1, e2] at c1; exact absurd rfl c1
          | false => exact .inl ⟨hj, rfl, rfl⟩
        | false =>
          cases e2 : b j i with
          | true => exact absurd (.inl ⟨hi, e2, e1⟩) hn
          | false => rw [e1, e2] at c1; exact absurd rfl c1
end Eu

namespace Pd
open PySem PySem.Spec PyProof.Rows L2 LamX
section
variable {X : Cx} {T : List (Addr × Str)} {E : XK} {k : Nat}
end
abbrev FnF := List D → (List D → Prop) → (Xc → Prop) → Prop
def specF (K : PySem.W.Frag) (T : List (Addr × Str)) (F : FnF) : Sp := fun vs H Q E => ∃ (wd : Wd) (ds : List D) (P : List D → Prop) (Ex : Xc → Prop), Good T wd H ∧ Reps K wd vs ds ∧ F ds P Ex ∧ XOk K T ⟨wd, H, []⟩ E Ex ∧
  ∀ xs, P xs → ∀ (p : Addr) (us : List V) (wd' : Wd) (H' : Hp), Ord wd wd' H → Good T wd' H' → Keep wd H H' → H' p = some (.lst us) → wd'.M p = none → p ∉ wd'.B → Nt H p → Reps K wd' us xs → Q (.ref p) H'
structure DefFr (P : Program) (w : World) (K : PySem.W.Frag) (mg : Str → Option Value) (base : Heap) (T : List (Addr × Str)) (x : Str) (k : Nat) (ps : List Str) (F : FnF) : Prop where
  ex : ∃ (f : Addr) (fd : FuncData), mg x = some (.ref f) ∧ PySem.W.keepIn K (.ref f) = true ∧ Binds K fd ps [] ∧ FnOk P w K mg base (L2.CX P w) k f fd ps (specF K T F) ∧ ∃ oc od osl, K.lookup f = some ⟨oc, od, .func fd, osl⟩
def wCallF (F : FnF) (a : W (List D)) : W (List D) := a.bind fun ds env Q ex => F ds (fun xs => Q xs env) ex
section
variable {X : Cx} {T : List (Addr × Str)} {E : XK} {k : Nat}
theorem jf_callF {x : Str} {ps : List Str} {F : FnF} {e : Expr} {es : List Expr} {a : W (List D)} {p pos : Pos} {j : Nat} (B : Bd X E k) (G : DefFr X.prog X.w X.K X.mg X.base T x j ps F) (ha : JA T X E (e :: es) a) (hj : j ≤ k := by decide) (hg : Gl X x := by rfl)
    (hdb : (x == ("__debug__" : Str)) = false := by decide) (he : starEach (e :: es) X.env = (false, eval e X.env) :: starEach es X.env := by rfl) (hpl : (backTo pos (starEach es X.env)).any (·.1) = false := by rfl) : JF T X E (.Call (.Name x p) (e :: es) [] pos) (wCallF F a) := by
  obtain ⟨f, fd, g1, g2, g3, g4⟩ := G.ex
  refine peI (pe_call g4.1 (B.room.mono hj) hg g1 g2 g3 .nil B.pass ha hdb he hpl) fun σ H Q h => ?_
  obtain ⟨c, wd, env, P, Ex, r, h, xo, kk⟩ := h
  refine ⟨c, wd, env, _, Ex, r, h, xo, fun ds env1 h1 vs wd1 H1 le1 r1 rp1 => ?_⟩
  show specF X.K T F (vs ++ []) H1 Q E
  rw [List.append_nil]
  refine ⟨wd1, ds, _, Ex, r1.good, rp1, h1, xo.into r1.ord r1.keep, fun xs hd p us wd2 H2 o2 g2 k2 hp hm hb hn rs => ?_⟩
  have ne : ∀ (a : Addr) (ws : List V), H1 a = some (.lst ws) → a ≠ p := fun a ws e z => hn.no (z ▸ e) noTb_lst
  refine kk xs env1 hd (.ref p) wd2 H2 (le1.trans o2.le) (r1.go o2 g2 k2) ⟨p, us, rfl, hp, hm, hb, r1.keep.dm p hn, rs, ⟨fun i ys e z => ?_, fun i cs e y hy => ?_⟩, fun y hy => ne _ _ (r1.pin y hy).1⟩
  · obtain ⟨q, ws, a1, a2, _⟩ := r1.own i ys e
    rw [a1] at z
    cases z
    exact ne _ _ a2 rfl
  · obtain ⟨⟨ws, a1, _⟩, _⟩ := r1.ext.cel i cs e y hy
    exact ne _ _ a1
end
section
variable {P : Program} {w : World} {K : PySem.W.Frag} {mg : Str → Option Value} {base : Heap} {T : List (Addr × Str)}
theorem def_okF {x : Str} {st : Stmt} {e : Expr} {pos : Pos} {N ps : List Str} {k : Nat} {F : FnF} (D : HasD K mg x st) (body : defBody st = [.Return (some e) pos]) (S : FnScope N ps (defScope st)) (bn : ∀ f fd, FunD K x x (defArgs st) (defBody st) (defScope st) [] [] f fd → Binds K fd ps [])
    (len : ∀ ds Q Ex, F ds Q Ex → ds.length = ps.length)
    (hd : ∀ (cdv : Value) (A : Around) (outer : List Env) (s : Shared) (H : Hp) (E : XK) (f : Addr), Bd (cxOf (L2.CX P w) P w K mg base N x (defScope st) f cdv A outer s H E) E k →
      ∃ wb, JF T (cxOf (L2.CX P w) P w K mg base N x (defScope st) f cdv A outer s H E) E e wb ∧ ∀ ds Q Ex, F ds Q Ex → wb (startE N ds) (fun xs _ => Q xs) Ex) : DefFr P w K mg base T x (k + 1) ps F := by
  obtain ⟨f, fd, D, gm⟩ := D
  have bn' := bn f fd D
  refine ⟨f, fd, gm, D.kp, bn', ?_, by
    obtain ⟨oc, od, dV, kV, doc, pm, an, cdv, ct, osl, _, lk, _⟩ := D.ex
    exact ⟨oc, od, osl, lk⟩⟩
  refine D.ok S (fun vs H Q E h => ?_) (fun cdv A outer s H vs Q E hr h => ?_)
  · obtain ⟨wd, ds, P, Ex, _, r, h, _⟩ := h
    rw [r.length]
    exact len _ _ _ h
  · obtain ⟨wd, ds, P1, Ex, g, r, h, xo, kk⟩ := h
    have tk : Takes (cxOf (L2.CX P w) P w K mg base N x (defScope st) f cdv A outer s H E) (fun cls d _ H => E cls d H) := takes_of rfl rfl rfl rfl
    have B : Bd (cxOf (L2.CX P w) P w K mg base N x (defScope st) f cdv A outer s H E) E k := ⟨hr, passes_call tk fun _ _ _ _ h => h, passes_of rfl, rfl, S.nd⟩
    obtain ⟨wb, hj, hw⟩ := hd cdv A outer s H E f B
    rw [body]
    refine ⟨_, pss_one (ps_ret hj), ⟨wd, H, []⟩, wd, startE N ds, _, Ex, rel_start g r, hw ds P1 Ex h, xo, fun xs env' hn v wd' H' le r' fr => ?_⟩
    obtain ⟨p, us, rfl, a1, a2, a3, a4, a5, _⟩ := fr
    exact kk xs hn p us wd' H' r'.ord r'.good r'.keep a1 a2 a3 a4 a5
end
end Pd

namespace Pd
open PySem PySem.Spec PyProof.Rows L2 LamX
section
variable {X : Cx} {T : List (Addr × Str)} {E : XK} {k : Nat}
end
section
variable {X : Cx} {T : List (Addr × Str)} {E : XK} {k : Nat} {K : PySem.W.Frag} {c : Ctx} {wd : Wd} {env : PEnv} {σ : L2.St} {H : Hp}
theorem Rel.noneAt (r : Rel K T c wd env σ H) (j : Nat) : Rel K T c wd (env.set j none) σ H := by
  have at_ : ∀ {i : Nat} {s : Sl}, (env.set j none)[i]? = some (some s) → env[i]? = some (some s) := fun {i s} e => by
    rcases get_set e with ⟨_, e, _⟩ | ⟨_, e⟩
    · cases e
    · exact e
  refine ⟨r.ord, r.good, r.keep, by rw [List.length_set]; exact r.len, fun i x e => r.dat i x (at_ e), fun i xs e => r.own i xs (at_ e), fun i l xs ys p e1 e2 => r.sep i l xs ys p (at_ e1) (at_ e2), fun q hq => ?_, ?_⟩
  · obtain ⟨z1, z2, z3, z4⟩ := r.pin q hq
    exact ⟨z1, z2, z3, fun i xs e => z4.o i xs (at_ e), fun i cs e => z4.c i cs (at_ e)⟩
  · exact r.ext.sl (fun i s e _ _ => ⟨at_ e, rfl⟩) fun i ys e => .inl ⟨ys, at_ e, rfl⟩
theorem Rel.frzAll : ∀ (cs : List (Addr × List D)) {wd : Wd}, Rel K T c wd env σ H → (cs.map (·.1)).Nodup → (∀ q ∈ cs, rF K c wd env σ H (.ref q.1) q.2) → ∃ wd', Le wd wd' ∧ Rel K T c wd' env σ H ∧ (∀ q ∈ cs, Rep K wd' (.ref q.1) (.lst q.2)) ∧ wd'.B = wd.B ∧ ∀ a, a ∉ cs.map (·.1) → wd'.M a = wd.M a
  | [], wd, r, _, _ => ⟨wd, Le.refl _, r, (fun _ z => nomatch z), rfl, fun _ _ => rfl⟩
  | q :: cs, wd, r, nd, h => by
    obtain ⟨nq, nd⟩ := List.nodup_cons.mp nd
    obtain ⟨q', vs, e, h1, h2, h3, h4, h5, h6, h7⟩ := h q List.mem_cons_self
    cases e
    have le' : Le wd (wd.add q.1 (.lst vs)) := Le.add h2
    have uq : ∀ {a : Addr} {o : HO}, (wd.add q.1 (.lst vs)).M a = some o → (a = q.1 ∧ o = .lst vs) ∨ wd.M a = some o := fun {a o} z => by
      by_cases ha : a = q.1
      · have z' : upd wd.M q.1 (.lst vs) a = some o := z
        rw [ha, upd_same] at z'
        cases z'
        exact .inl ⟨ha, rfl⟩
      · have z' : upd wd.M q.1 (.lst vs) a = some o := z
        rw [upd_ne ha] at z'
        exact .inr z'
    have off : ∀ {a : Addr}, a ≠ q.1 → (wd.add q.1 (.lst vs)).M a = wd.M a := fun {a} n => upd_ne n
    have r1 : Rel K T c (wd.add q.1 (.lst vs)) env σ H := by
      refine ⟨⟨r.ord.le.trans le', fun a o z => ?_, r.ord.fb⟩, ⟨fun a o z => ?_, fun a o z => ?_, fun b hb => ?_, r.good.tab, r.good.siz⟩, r.keep, r.len, fun i d z => ?_, fun i ys z => ?_, r.sep, fun qq hq => ?_, r.ext.addM h2 h6.c h1⟩
      · rcases uq z with ⟨rfl, rfl⟩ | z
        · exact .inr (.inl h4)
        · exact r.ord.fm a o z
      · rcases uq z with ⟨rfl, rfl⟩ | z
        · exact h1
        · exact r.good.sub a o z
      · rcases uq z with ⟨rfl, rfl⟩ | z
        · exact ⟨noTb_lst, r.good.siz _ _ h1⟩
        · exact r.good.ntb a o z
      · obtain ⟨z1, z2⟩ := r.good.box b hb
        exact ⟨by rw [off (fun z => h3 (z ▸ hb))]; exact z1, z2⟩
      · obtain ⟨v, y1, y2⟩ := r.dat i d z
        exact ⟨v, y1, y2.mono le'⟩
      · obtain ⟨p2, us, y1, y2, y3, y4, y5, y6⟩ := r.own i ys z
        exact ⟨p2, us, y1, y2, by rw [off (fun zz => h6.o i ys z (by rw [← zz]; exact y1))]; exact y3, y4, y5, y6.mono le'⟩
      · obtain ⟨y1, y2, y3, y4⟩ := r.pin qq hq
        exact ⟨y1, by rw [off (fun zz => h7 qq hq zz)]; exact y2, y3, y4⟩
    obtain ⟨wd2, le2, r2, rp2, eb, em⟩ := Rel.frzAll cs r1 nd fun p hp => by
      obtain ⟨p', us, e, g1, g2, g3, g4, g5, g6, g7⟩ := h p (List.mem_cons_of_mem _ hp)
      cases e
      have ne : p.1 ≠ q.1 := fun z => nq (List.mem_map.mpr ⟨p, hp, z⟩)
      exact ⟨p.1, us, rfl, g1, by rw [off ne]; exact g2, g3, g4, g5.mono le', g6, g7⟩
    refine ⟨wd2, le'.trans le2, r2, fun p hp => ?_, eb, fun a ha => ?_⟩
    · rcases List.mem_cons.mp hp with rfl | hp
      · exact (Rep.lst upd_same (h5.mono le')).mono le2
      · exact rp2 p hp
    · rw [em a fun z => ha (List.mem_cons_of_mem _ z), off fun z => ha (List.mem_map.mpr ⟨q, List.mem_cons_self, z.symm⟩)]
theorem reps_raw {K : PySem.W.Frag} {wd wd' : Wd} : ∀ {qs : List (Addr × List D)} {vs : List V}, Reps K wd vs (qs.map fun q => D.raw (.ref q.1)) → (∀ q ∈ qs, Rep K wd' (.ref q.1) (.lst q.2)) → Reps K wd' vs (qs.map fun q => D.lst q.2)
  | [], _, r, _ => by cases r; exact .nil
  | q :: qs, _, r, h => by
    cases r with
    | cons a b =>
      cases a
      exact .cons (h q List.mem_cons_self) (reps_raw b fun p hp => h p (List.mem_cons_of_mem _ hp))
def wFrzC (i j : Nat) : W D := fun env Q _ => match gt env i with
  | some (.own rs) => ∃ qs : List (Addr × List D), rs = qs.map (fun q => D.raw (.ref q.1)) ∧ (∀ q ∈ qs, q ∈ celsOf (gt env j)) ∧ Q (.lst (qs.map fun q => .lst q.2)) (((env.set j none).set i none).set i (some (.d (.lst (qs.map fun q => .lst q.2)))))
  | _ => False
theorem wFrzC_inv {i j : Nat} {env : PEnv} {Q : D → PEnv → Prop} {ex : Xc → Prop} (h : wFrzC i j env Q ex) : ∃ qs : List (Addr × List D), gt env i = some (.own (qs.map fun q => D.raw (.ref q.1))) ∧ (∀ q ∈ qs, q ∈ celsOf (gt env j)) ∧ Q (.lst (qs.map fun q => .lst q.2)) (((env.set j none).set i none).set i (some (.d (.lst (qs.map fun q => .lst q.2))))) := by
  unfold wFrzC at h
  split at h
  · rename_i rs e
    obtain ⟨qs, rfl, h1, h2⟩ := h
    exact ⟨qs, e, h1, h2⟩
  · exact h.elim
theorem je_frzC {x : Str} {pos : Pos} (i j : Nat) (hN : X.N[i]? = some x := by rfl) (hv : Vis X.env.scope x := by first | exact Or.inl rfl | exact Or.inr (Or.inl rfl) | exact Or.inr (Or.inr rfl)) (hd : (x == ("__debug__" : Str)) = false := by decide)
    (hcd : (x == ("__classdict__" : Str)) = false := by decide) : JE T X E (.Name x pos) (wFrzC i j) :=
  peI (pe_var hN hv hd hcd) fun σ H Q ⟨c, wd, env, P, Ex, r, h, _, kk⟩ => by
    obtain ⟨qs, e, hm, h⟩ := wFrzC_inv h
    have e := gt_eq _ _ e
    obtain ⟨p, vs, a1, a2, a3, a4, a5, a6⟩ := r.own i _ e
    have r0 := (r.noneAt j).noneAt i
    have at_ : ∀ {l : Nat} {s : Sl}, ((env.set j none).set i none)[l]? = some (some s) → env[l]? = some (some s) ∧ l ≠ j ∧ l ≠ i := fun {l s} e => by
      rcases get_set e with ⟨_, e, _⟩ | ⟨n1, e⟩
      · cases e
      rcases get_set e with ⟨_, e, _⟩ | ⟨n2, e⟩
      · cases e
      · exact ⟨e, fun z => n2 z.symm, fun z => n1 z.symm⟩
    have cels : ∃ cs : List (Addr × List D), (cs.map (·.1)).Nodup ∧ (∀ q ∈ qs, q ∈ cs) ∧ (∀ q ∈ cs, rF X.K c wd ((env.set j none).set i none) σ H (.ref q.1) q.2) ∧ ∀ q ∈ cs, q.1 ≠ p := by
      cases eg : gt env j with
      | none => exact ⟨[], List.nodup_nil, fun q hq => by rw [eg] at hm; exact hm q hq, (fun _ z => nomatch z), (fun _ z => nomatch z)⟩
      | some s =>
        cases s with
        | cels cs =>
          have ej := gt_eq _ _ eg
          refine ⟨cs, r.ext.cnd j cs ej, fun q hq => by have := hm q hq; rw [eg] at this; exact this, fun q hq => ?_, fun q hq => ?_⟩
          · obtain ⟨⟨us, g1, g2⟩, g3, g4, g5, g6⟩ := r.ext.cel j cs ej q hq
            exact ⟨q.1, us, rfl, g1, g3, g4, g5, g2, ⟨fun l ys z => g6 l ys (at_ z).1, fun l ds z q' hq' => r.ext.ce1 l j ds cs (at_ z).1 ej (at_ z).2.1 q' hq' q hq⟩, fun y hy z => (r.pin y hy).2.2.2.c j cs ej q hq z.symm⟩
          · exact fun z => (r.ext.cel j cs ej q hq).2.2.2.2 i _ e (by rw [a1, z])
        | _ => exact ⟨[], List.nodup_nil, fun q hq => by have := hm q hq; rw [eg] at this; exact this, (fun _ z => nomatch z), (fun _ z => nomatch z)⟩
    obtain ⟨cs, nd, sub, fr, np⟩ := cels
    obtain ⟨wd1, le1, r1, rp1, eb, em⟩ := Rel.frzAll cs r0 nd fr
    have a7 : wd1.M p = none := by
      rw [em p fun z => ?_]
      · exact a3
      · obtain ⟨q, hq, z⟩ := List.mem_map.mp z
        exact np q hq z
    have rr : Reps X.K wd1 vs (qs.map fun q => D.lst q.2) := reps_raw a6 fun q hq => rp1 q (sub q hq)
    obtain ⟨wd2, le2, r2, rp2⟩ := r1.frzF (v := .ref p) (xs := qs.map fun q => .lst q.2) ⟨p, vs, rfl, a2, a7, by rw [eb]; exact a4, a5, rr, ⟨fun l ys z y => (at_ z).2.2 (r.sep l i _ _ p (at_ z).1 e y a1), fun l ds z q hq y => (r.ext.cel l ds (at_ z).1 q hq).2.2.2.2 i _ e (by rw [a1, y])⟩, fun y hy z => (r.pin y hy).2.2.2.o i _ e (by rw [a1, z])⟩
    have r3 := r2.set (i := i) rp2
    have es : σ.set i (some (.ref p)) = σ := by
      refine List.ext_getElem? fun l => ?_
      by_cases hl : i = l
      · subst hl
        rw [List.getElem?_set_self (List.getElem?_eq_some_iff.mp a1).1, a1]
      · rw [List.getElem?_set_ne hl]
    rw [es] at r3
    exact ⟨.ref p, a1, kk _ _ h _ _ H (le1.trans le2) r3 rp2⟩
end
abbrev FnC := List D → (List (List D) → Prop) → (Xc → Prop) → Prop
structure NewCels (K : PySem.W.Frag) (wd' : Wd) (H H' : Hp) (p : Addr) (us : List V) (cs : List (Addr × List D)) : Prop where
  hp : H' p = some (.lst us)
  hm : wd'.M p = none
  hb : p ∉ wd'.B
  hn : Nt H p
  rs : Reps K wd' us (cs.map fun q => D.raw (.ref q.1))
  nd : (cs.map (·.1)).Nodup
  ea : ∀ q ∈ cs, (∃ vs, H' q.1 = some (.lst vs) ∧ Reps K wd' vs q.2) ∧ wd'.M q.1 = none ∧ q.1 ∉ wd'.B ∧ Nt H q.1 ∧ q.1 ≠ p
def specC (K : PySem.W.Frag) (T : List (Addr × Str)) (F : FnC) : Sp := fun vs H Q E => ∃ (wd : Wd) (ds : List D) (P : List (List D) → Prop) (Ex : Xc → Prop), Good T wd H ∧ Reps K wd vs ds ∧ F ds P Ex ∧ XOk K T ⟨wd, H, []⟩ E Ex ∧
  ∀ xss, P xss → ∀ (p : Addr) (us : List V) (wd' : Wd) (H' : Hp) (cs : List (Addr × List D)), Ord wd wd' H → Good T wd' H' → Keep wd H H' → NewCels K wd' H H' p us cs → cs.map (·.2) = xss → Q (.ref p) H'
structure DefFc (P : Program) (w : World) (K : PySem.W.Frag) (mg : Str → Option Value) (base : Heap) (T : List (Addr × Str)) (x : Str) (k : Nat) (ps : List Str) (F : FnC) : Prop where
  ex : ∃ (f : Addr) (fd : FuncData), mg x = some (.ref f) ∧ PySem.W.keepIn K (.ref f) = true ∧ Binds K fd ps [] ∧ FnOk P w K mg base (L2.CX P w) k f fd ps (specC K T F) ∧ ∃ oc od osl, K.lookup f = some ⟨oc, od, .func fd, osl⟩
theorem gt_set {env : PEnv} {j : Nat} {s : Sl} (h : j < env.length) : gt (env.set j (some s)) j = some s := gt_of (List.getElem?_set_self h)
section
variable {X : Cx} {T : List (Addr × Str)} {E : XK} {k : Nat} {K : PySem.W.Frag} {c : Ctx} {wd : Wd} {env : PEnv} {σ : L2.St} {H : Hp}
theorem Rel.cels0 {j : Nat} (r : Rel K T c wd (env.set j none) σ H) : Rel K T c wd (env.set j (some (.cels []))) σ H := by
  have at_ : ∀ {i : Nat} {s : Sl}, (env.set j (some (.cels [])))[i]? = some (some s) → (∃ _ : i = j, s = .cels []) ∨ (env.set j none)[i]? = some (some s) := fun {i s} e => by
    rcases get_set e with ⟨z, e, _⟩ | ⟨n, e⟩
    · cases e
      exact .inl ⟨z.symm, rfl⟩
    · exact .inr (by rw [List.getElem?_set_ne n]; exact e)
  have cel_ : ∀ {i : Nat} {cs : List (Addr × List D)}, (env.set j (some (.cels [])))[i]? = some (some (.cels cs)) → cs = [] ∨ (env.set j none)[i]? = some (some (.cels cs)) := fun {i cs} e => by
    rcases at_ e with ⟨_, e⟩ | e
    · cases e
      exact .inl rfl
    · exact .inr e
  have oth : ∀ {i : Nat} {s : Sl}, (env.set j (some (.cels [])))[i]? = some (some s) → s ≠ .cels [] → (env.set j none)[i]? = some (some s) := fun {i s} e n => by
    rcases at_ e with ⟨_, e⟩ | e
    · exact absurd e n
    · exact e
  refine ⟨r.ord, r.good, r.keep, by rw [List.length_set]; have := r.len; rw [List.length_set] at this; exact this, fun i x e => r.dat i x (oth e (fun z => nomatch z)), fun i xs e => r.own i xs (oth e (fun z => nomatch z)), fun i l xs ys p e1 e2 => r.sep i l xs ys p (oth e1 (fun z => nomatch z)) (oth e2 (fun z => nomatch z)), fun q hq => ?_,
    ⟨fun i p C fs e => r.ext.obj i p C fs (oth e (fun z => nomatch z)), fun i l p p' C C' fs gs e1 e2 => r.ext.ob1 i l p p' C C' fs gs (oth e1 (fun z => nomatch z)) (oth e2 (fun z => nomatch z)), fun i cs e q hq => ?_, fun i cs e => ?_, fun i l cs ds e1 e2 n q hq q' hq' => ?_, fun i lk kvs e => r.ext.dct i lk kvs (oth e (fun z => nomatch z)),
      fun i l lk lk' ks ls p e1 e2 => r.ext.dc1 i l lk lk' ks ls p (oth e1 (fun z => nomatch z)) (oth e2 (fun z => nomatch z))⟩⟩
  · obtain ⟨z1, z2, z3, z4⟩ := r.pin q hq
    exact ⟨z1, z2, z3, fun i xs e => z4.o i xs (oth e (fun z => nomatch z)), fun i cs e y hy => by
      rcases cel_ e with rfl | e
      · cases hy
      · exact z4.c i cs e y hy⟩
  · rcases cel_ e with rfl | e
    · cases hq
    · obtain ⟨z1, z2, z3, z4, z5⟩ := r.ext.cel i cs e q hq
      exact ⟨z1, z2, z3, z4, fun l ys e => z5 l ys (oth e (fun z => nomatch z))⟩
  · rcases cel_ e with rfl | e
    · exact List.nodup_nil
    · exact r.ext.cnd i cs e
  · rcases cel_ e1 with rfl | e1
    · cases hq
    rcases cel_ e2 with rfl | e2
    · cases hq'
    exact r.ext.ce1 i l cs ds e1 e2 n q hq q' hq'
theorem Rel.newCels {j : Nat} : ∀ (cs done : List (Addr × List D)), Rel K T c wd (env.set j (some (.cels (celsOf (gt env j) ++ done)))) σ H →
    ((celsOf (gt env j)).map (·.1) ++ (done ++ cs).map (·.1)).Nodup →
    (∀ q ∈ cs, (∃ vs, H q.1 = some (.lst vs) ∧ Reps K wd vs q.2) ∧ wd.M q.1 = none ∧ q.1 ∉ wd.B ∧ Nt c.H q.1 ∧ NoOwn env σ q.1 ∧ ∀ y ∈ c.pn, y.1 ≠ q.1) →
    Rel K T c wd (env.set j (some (.cels (celsOf (gt env j) ++ (done ++ cs))))) σ H
  | [], done, r, _, _ => by rw [List.append_nil]; exact r
  | q :: cs, done, r, nd, h => by
    obtain ⟨⟨vs, h1, h2⟩, h3, h4, h5, h6, h7⟩ := h q List.mem_cons_self
    by_cases hj : j < env.length
    · have e1 : celsOf (gt (env.set j (some (.cels (celsOf (gt env j) ++ done)))) j) = celsOf (gt env j) ++ done := by rw [gt_set hj]; rfl
      have no : NoOwn (env.set j (some (.cels (celsOf (gt env j) ++ done)))) σ q.1 := by
        refine ⟨fun i ys e => ?_, fun i ds e p hp => ?_⟩
        · rcases get_set e with ⟨_, e, _⟩ | ⟨_, e⟩
          · cases e
          · exact h6.o i ys e
        · rcases get_set e with ⟨_, e, _⟩ | ⟨_, e⟩
          · cases e
            intro z
            have nd' : (((celsOf (gt env j) ++ done).map (·.1)) ++ (q :: cs).map (·.1)).Nodup := by
              rw [List.map_append, List.append_assoc, ← List.map_append]
              exact nd
            exact (List.nodup_append.mp nd').2.2 p.1 (List.mem_map.mpr ⟨p, hp, rfl⟩) q.1 List.mem_cons_self z
          · exact h6.c i ds e p hp
      have r1 := r.newCel (j := j) h1 h3 h4 h5 h2 no h7
      rw [e1, List.set_set, List.append_assoc] at r1
      have := Rel.newCels cs (done ++ [(q.1, q.2)]) r1 (by rw [List.append_assoc]; exact nd) fun p hp => h p (List.mem_cons_of_mem _ hp)
      rw [List.append_assoc] at this
      exact this
    · have e2 : ∀ s : Option Sl, env.set j s = env := fun s => List.set_eq_of_length_le (Nat.le_of_not_lt hj)
      rw [e2] at r ⊢
      exact r
end
section
variable {P : Program} {w : World} {K : PySem.W.Frag} {mg : Str → Option Value} {base : Heap} {T : List (Addr × Str)}
theorem def_okFc {x : Str} {st : Stmt} {e : Expr} {pos : Pos} {N ps : List Str} {k : Nat} {F : FnC} (D : HasD K mg x st) (body : defBody st = [.Return (some e) pos]) (S : FnScope N ps (defScope st)) (bn : ∀ f fd, FunD K x x (defArgs st) (defBody st) (defScope st) [] [] f fd → Binds K fd ps [])
    (len : ∀ ds Q Ex, F ds Q Ex → ds.length = ps.length)
    (hd : ∀ (cdv : Value) (A : Around) (outer : List Env) (s : Shared) (H : Hp) (E : XK) (f : Addr), Bd (cxOf (L2.CX P w) P w K mg base N x (defScope st) f cdv A outer s H E) E k →
      ∃ wb j, JF T (cxOf (L2.CX P w) P w K mg base N x (defScope st) f cdv A outer s H E) E e wb ∧ ∀ ds Q Ex, F ds Q Ex → wb (startE N ds) (fun xs env' => xs = (celsOf (gt env' j)).map (fun q => Pd.D.raw (.ref q.1)) ∧ Q ((celsOf (gt env' j)).map (·.2))) Ex) : DefFc P w K mg base T x (k + 1) ps F := by
  obtain ⟨f, fd, D, gm⟩ := D
  have bn' := bn f fd D
  refine ⟨f, fd, gm, D.kp, bn', ?_, by
    obtain ⟨oc, od, dV, kV, doc, pm, an, cdv, ct, osl, _, lk, _⟩ := D.ex
    exact ⟨oc, od, osl, lk⟩⟩
  refine D.ok S (fun vs H Q E h => ?_) (fun cdv A outer s H vs Q E hr h => ?_)
  · obtain ⟨wd, ds, P, Ex, _, r, h, _⟩ := h
    rw [r.length]
    exact len _ _ _ h
  · obtain ⟨wd, ds, P1, Ex, g, r, h, xo, kk⟩ := h
    have tk : Takes (cxOf (L2.CX P w) P w K mg base N x (defScope st) f cdv A outer s H E) (fun cls d _ H => E cls d H) := takes_of rfl rfl rfl rfl
    have B : Bd (cxOf (L2.CX P w) P w K mg base N x (defScope st) f cdv A outer s H E) E k := ⟨hr, passes_call tk fun _ _ _ _ h => h, passes_of rfl, rfl, S.nd⟩
    obtain ⟨wb, j, hj, hw⟩ := hd cdv A outer s H E f B
    rw [body]
    refine ⟨_, pss_one (ps_ret hj), ⟨wd, H, []⟩, wd, startE N ds, _, Ex, rel_start g r, hw ds P1 Ex h, xo, fun xs env' hn v wd' H' le r' fr => ?_⟩
    obtain ⟨p, us, rfl, a1, a2, a3, a4, a5, a6, _⟩ := fr
    obtain ⟨rfl, hn⟩ := hn
    refine kk _ hn p us wd' H' (celsOf (gt env' j)) r'.ord r'.good r'.keep ⟨a1, a2, a3, a4, a5, ?_, fun q hq => ?_⟩ rfl
    · cases e : gt env' j with
      | none => exact List.nodup_nil
      | some s =>
        cases s with
        | cels ds => exact r'.ext.cnd j ds (gt_eq _ _ e)
        | _ => exact List.nodup_nil
    · obtain ⟨ds, e1, _, m⟩ := celsOf_mem hq
      obtain ⟨g1, g2, g3, g4, _⟩ := r'.ext.cel j ds e1 q m
      exact ⟨g1, g2, g3, g4, a6.c j ds e1 q m⟩
end
end Pd

namespace Pd
open PySem PySem.Spec PyProof.Rows L2 LamX
abbrev FnM := List D → List (List D) → (D → Prop) → (Xc → Prop) → Prop
def drp (H : Hp) (S : List Addr) : Hp := fun a => if a ∈ S then none else H a
theorem drp_in {H : Hp} {S : List Addr} {a : Addr} (h : a ∈ S) : drp H S a = none := if_pos h
theorem drp_out {H : Hp} {S : List Addr} {a : Addr} (h : a ∉ S) : drp H S a = H a := if_neg h
theorem drp_sub {H : Hp} {S : List Addr} {a : Addr} {o : HO} (h : drp H S a = some o) : a ∉ S ∧ H a = some o := by
  by_cases z : a ∈ S
  · rw [drp_in z] at h
    cases h
  · rw [drp_out z] at h
    exact ⟨z, h⟩
structure MCels (K : PySem.W.Frag) (wd : Wd) (H : Hp) (p : Addr) (us : List V) (cs : List (Addr × List D)) : Prop where
  hp : H p = some (.lst us)
  hm : wd.M p = none
  hb : p ∉ wd.B
  rs : Reps K wd us (cs.map fun q => D.raw (.ref q.1))
  nd : (cs.map (·.1)).Nodup
  ea : ∀ q ∈ cs, (∃ vs, H q.1 = some (.lst vs) ∧ Reps K wd vs q.2) ∧ wd.M q.1 = none ∧ q.1 ∉ wd.B ∧ q.1 ≠ p
abbrev adr (p : Addr) (cs : List (Addr × List D)) : List Addr := p :: cs.map (·.1)
theorem MCels.at_ {K : PySem.W.Frag} {wd : Wd} {H : Hp} {p : Addr} {us : List V} {cs : List (Addr × List D)} (m : MCels K wd H p us cs) {a : Addr} (h : a ∈ adr p cs) : (∃ vs, H a = some (.lst vs)) ∧ wd.M a = none ∧ a ∉ wd.B := by
  rcases List.mem_cons.mp h with rfl | h
  · exact ⟨⟨us, m.hp⟩, m.hm, m.hb⟩
  · obtain ⟨q, hq, rfl⟩ := List.mem_map.mp h
    obtain ⟨⟨vs, h1, _⟩, h2, h3, _⟩ := m.ea q hq
    exact ⟨⟨vs, h1⟩, h2, h3⟩
theorem MCels.good {T : List (Addr × Str)} {K : PySem.W.Frag} {wd : Wd} {H : Hp} {p : Addr} {us : List V} {cs : List (Addr × List D)} (m : MCels K wd H p us cs) (g : Good T wd H) : Good T wd (drp H (adr p cs)) := by
  have off : ∀ {a : Addr} {o : HO}, H a = some o → (∀ vs, o ≠ .lst vs) → drp H (adr p cs) a = some o := fun {a o} e n => by
    rw [drp_out fun z => by
      obtain ⟨vs, e'⟩ := (m.at_ z).1
      rw [e] at e'
      exact n vs (Option.some.inj e')]
    exact e
  refine ⟨fun a o e => ?_, g.ntb, fun b hb => ?_, fun q hq => ?_, fun a o e => g.siz a o (drp_sub e).2⟩
  · rw [drp_out fun z => by rw [(m.at_ z).2.1] at e; cases e]
    exact g.sub a o e
  · obtain ⟨h1, gg, s, c, h2, h3⟩ := g.box b hb
    exact ⟨h1, gg, s, c, by rw [drp_out fun z => (m.at_ z).2.2 hb]; exact h2, h3⟩
  · obtain ⟨ps, z1, z2, z3⟩ := g.tab q hq
    refine ⟨ps, off z1 (fun _ z => nomatch z), z2, fun pos cv hc => ?_⟩
    obtain ⟨c, e1, e2⟩ := z3 pos cv hc
    exact ⟨c, e1, off e2 (fun _ z => nomatch z)⟩
def specM (K : PySem.W.Frag) (T : List (Addr × Str)) (F : FnM) : Sp := fun vs H Q E => ∃ (wd : Wd) (ds : List D) (P : D → Prop) (Ex : Xc → Prop) (us : List V) (p : Addr) (cs : List (Addr × List D)) (ws : List V),
  vs = ws ++ [.ref p] ∧ Good T wd H ∧ Reps K wd ws ds ∧ MCels K wd H p us cs ∧ F ds (cs.map (·.2)) P Ex ∧ XOk K T ⟨wd, drp H (adr p cs), []⟩ E Ex ∧
  ∀ d, P d → ∀ (v : V) (wd' : Wd) (H' : Hp), Ord wd wd' (drp H (adr p cs)) → Good T wd' H' → Keep wd (drp H (adr p cs)) H' → Rep K wd' v d → Q v H'
structure DefM (P : Program) (w : World) (K : PySem.W.Frag) (mg : Str → Option Value) (base : Heap) (T : List (Addr × Str)) (x : Str) (k : Nat) (ps : List Str) (F : FnM) : Prop where
  ex : ∃ (f : Addr) (fd : FuncData), mg x = some (.ref f) ∧ PySem.W.keepIn K (.ref f) = true ∧ Binds K fd ps [] ∧ FnOk P w K mg base (L2.CX P w) k f fd ps (specM K T F) ∧ ∃ oc od osl, K.lookup f = some ⟨oc, od, .func fd, osl⟩
def wCallM (F : FnM) (w1 : W D) (G : FnC) (a : W (List D)) : W D := w1.bind fun d1 => a.bind fun ds env Q ex => G ds (fun xss => F [d1] xss (fun d => Q d env) ex) ex
section
variable {X : Cx} {T : List (Addr × Str)} {E : XK} {k : Nat}
theorem je_callM {x y : Str} {ps ps2 : List Str} {F : FnM} {G : FnC} {e1 e : Expr} {es : List Expr} {w1 : W D} {a : W (List D)} {p p2 pos pos2 : Pos} {j j2 : Nat} (B : Bd X E k) (GF : DefM X.prog X.w X.K X.mg X.base T x j ps F) (GG : DefFc X.prog X.w X.K X.mg X.base T y j2 ps2 G)
    (h1 : JE T X E e1 w1) (ha : JA T X E (e :: es) a) (hj : j ≤ k := by decide) (hj2 : j2 ≤ k := by decide) (hg : Gl X x := by rfl) (hg2 : Gl X y := by rfl)
    (hdb : (x == ("__debug__" : Str)) = false := by decide) (hdb2 : (y == ("__debug__" : Str)) = false := by decide) (he : starEach [e1, .Call (.Name y p2) (e :: es) [] pos2] X.env = (false, eval e1 X.env) :: starEach [.Call (.Name y p2) (e :: es) [] pos2] X.env := by rfl)
    (he1 : starEach [.Call (.Name y p2) (e :: es) [] pos2] X.env = (false, eval (.Call (.Name y p2) (e :: es) [] pos2) X.env) :: starEach [] X.env := by rfl) (hpl : (backTo pos (starEach [.Call (.Name y p2) (e :: es) [] pos2] X.env)).any (·.1) = false := by rfl)
    (he2 : starEach (e :: es) X.env = (false, eval e X.env) :: starEach es X.env := by rfl) (hpl2 : (backTo pos2 (starEach es X.env)).any (·.1) = false := by rfl) :
    JE T X E (.Call (.Name x p) [e1, .Call (.Name y p2) (e :: es) [] pos2] [] pos) (wCallM F w1 G a) := by
  obtain ⟨f, fd, g1, g2, g3, g4⟩ := GF.ex
  obtain ⟨f', fd', g1', g2', g3', g4'⟩ := GG.ex
  refine peI (pe_call g4.1 (B.room.mono hj) hg g1 g2 g3 .nil B.pass (pa_cons h1 (pa_cons (pe_call g4'.1 (B.room.mono hj2) hg2 g1' g2' g3' .nil B.pass ha hdb2 he2 hpl2) pa_nil he1) he) hdb he hpl) fun σ H Q ⟨c, wd, env, P, Ex, r, h, xo, kk⟩ => ?_
  refine ⟨c, wd, env, _, Ex, r, h, xo, fun d1 env1 h1 v1 wd1 H1 le1 r1 rp1 => ?_⟩
  refine ⟨c, wd1, env1, _, Ex, r1, h1, xo, fun ds env2 h2 us wd2 H2 le2 r2 rp2 => ?_⟩
  show specC X.K T G (us ++ []) H2 _ E
  rw [List.append_nil]
  refine ⟨wd2, ds, _, Ex, r2.good, rp2, h2, xo.into r2.ord r2.keep, fun xss hf p us3 wd3 H3 cs o3 g3 k3 nc ex => ?_⟩
  subst ex
  show specM X.K T F ([v1, .ref p] ++ []) H3 Q E
  rw [List.append_nil]
  have m : MCels X.K wd3 H3 p us3 cs := ⟨nc.hp, nc.hm, nc.hb, nc.rs, nc.nd, fun q hq => ⟨(nc.ea q hq).1, (nc.ea q hq).2.1, (nc.ea q hq).2.2.1, (nc.ea q hq).2.2.2.2⟩⟩
  have new : ∀ {a : Addr}, a ∈ adr p cs → Nt H2 a := fun {a} h => by
    rcases List.mem_cons.mp h with rfl | h
    · exact nc.hn
    · obtain ⟨q, hq, rfl⟩ := List.mem_map.mp h
      exact (nc.ea q hq).2.2.2.1
  have km : Keep wd2 H2 (drp H3 (adr p cs)) := ⟨fun a o e hb t => by rw [drp_out fun z => (new z).no e t]; exact k3.st a o e hb t, fun a n => by
    by_cases z : a ∈ adr p cs
    · exact new z
    · exact k3.dm a fun o e => n o (by rw [drp_out z]; exact e)⟩
  have gm := m.good g3
  have r3 := r2.go o3 gm km
  refine ⟨wd3, [d1], _, Ex, us3, p, cs, [v1], rfl, g3, .cons (Rep.mono (le2.trans o3.le) rp1) .nil, m, hf, xo.into r3.ord r3.keep, fun d hd v wd4 H4 o4 g4 k4 rp4 => ?_⟩
  exact kk d env2 hd v wd4 H4 (le1.trans (le2.trans (o3.le.trans o4.le))) (r3.go o4 g4 k4) rp4
end
def startM (N : List Str) (ds : List D) (p : Addr) (cs : List (Addr × List D)) (j : Nat) : PEnv := ((startE N (ds ++ [.raw (.ref p)])).set j (some (.cels cs))).set ds.length (some (.own (cs.map fun q => D.raw (.ref q.1))))
section
variable {P : Program} {w : World} {K : PySem.W.Frag} {mg : Str → Option Value} {base : Heap} {T : List (Addr × Str)}
theorem rel_startM {wd : Wd} {H : Hp} {N : List Str} {ws us : List V} {ds : List D} {p : Addr} {cs : List (Addr × List D)} {j : Nat} (g : Good T wd H) (r : Reps K wd ws ds) (m : MCels K wd H p us cs) (hj : ds.length < j) (hN : j < N.length) :
    Rel K T ⟨wd, drp H (adr p cs), []⟩ wd (startM N ds p cs j) (L2.start N (ws ++ [.ref p])) H := by
  have r0 : Rel K T ⟨wd, drp H (adr p cs), []⟩ wd (startE N (ds ++ [.raw (.ref p)])) (L2.start N (ws ++ [.ref p])) (drp H (adr p cs)) := rel_start (m.good g) (r.append (.cons (.raw _) .nil))
  have k1 : Keep wd (drp H (adr p cs)) H := ⟨fun a o e _ _ => (drp_sub e).2, fun a n o e => n o (drp_sub e).2⟩
  have r1 := r0.go (Ord.refl _ _) g k1
  have r2 := (r1.noneAt j).cels0
  have ln : ∀ z : D, (startE N (ds ++ [z])).length = (ds.length + 1) + (N.length - (ds.length + 1)) := fun z => by
    unfold startE
    rw [List.length_append, List.length_map, List.length_append, List.length_replicate]
    rfl
  have e0 : (startE N (ds ++ [.raw (.ref p)]))[j]? = some none := by
    unfold startE
    rw [List.getElem?_append_right (by rw [List.length_map, List.length_append]; exact hj), List.getElem?_replicate, if_pos]
    rw [List.length_map, List.length_append]
    show j - (ds.length + 1) < N.length - (ds.length + 1)
    omega
  have c0 : celsOf (gt (startE N (ds ++ [.raw (.ref p)])) j) = [] := by
    cases e : gt (startE N (ds ++ [.raw (.ref p)])) j with
    | none => rfl
    | some s =>
      have := gt_eq _ _ e
      rw [e0] at this
      cases this
  have nOwn : ∀ {i : Nat} {xs : List D}, (startE N (ds ++ [.raw (.ref p)]))[i]? = some (some (.own xs)) → False := fun {i xs} e => by
    obtain ⟨_, _, _, h2, _, _, h5, _⟩ := r0.own i xs e
    exact h5.no h2 noTb_lst
  have nCel : ∀ {i : Nat} {ds' : List (Addr × List D)}, (startE N (ds ++ [.raw (.ref p)]))[i]? = some (some (.cels ds')) → ∀ q ∈ ds', False := fun {i ds'} e q hq => by
    obtain ⟨⟨vs, h1, _⟩, _, _, h5, _⟩ := r0.ext.cel i ds' e q hq
    exact h5.no h1 noTb_lst
  have nt : ∀ {a : Addr}, a ∈ adr p cs → Nt (drp H (adr p cs)) a := fun {a} h => Nt.of (drp_in h)
  have r3 := Rel.newCels (K := K) (T := T) (c := ⟨wd, drp H (adr p cs), []⟩) (wd := wd) (env := startE N (ds ++ [.raw (.ref p)])) (σ := L2.start N (ws ++ [.ref p])) (H := H) (j := j) cs [] (by rw [c0]; exact r2) (by rw [c0]; exact m.nd) fun q hq =>
    ⟨(m.ea q hq).1, (m.ea q hq).2.1, (m.ea q hq).2.2.1, nt (List.mem_cons_of_mem _ (List.mem_map.mpr ⟨q, hq, rfl⟩)), ⟨fun i xs e => (nOwn e).elim, fun i ds' e q' hq' => (nCel e q' hq').elim⟩, fun y hy => absurd hy (by simp)⟩
  rw [c0] at r3
  have r3 : Rel K T ⟨wd, drp H (adr p cs), []⟩ wd ((startE N (ds ++ [.raw (.ref p)])).set j (some (.cels cs))) (L2.start N (ws ++ [.ref p])) H := r3
  have f : rF K ⟨wd, drp H (adr p cs), []⟩ wd ((startE N (ds ++ [.raw (.ref p)])).set j (some (.cels cs))) (L2.start N (ws ++ [.ref p])) H (.ref p) (cs.map fun q => D.raw (.ref q.1)) := by
    refine ⟨p, us, rfl, m.hp, m.hm, m.hb, nt List.mem_cons_self, m.rs, ⟨fun i xs e => ?_, fun i ds' e q hq => ?_⟩, fun y hy => absurd hy (by simp)⟩
    · rcases get_set e with ⟨_, e, _⟩ | ⟨_, e⟩
      · cases e
      · exact (nOwn e).elim
    · rcases get_set e with ⟨_, e, _⟩ | ⟨_, e⟩
      · cases e
        exact (m.ea q hq).2.2.2
      · exact (nCel e q hq).elim
  have r4 := r3.ownF (i := ds.length) f
  have es : (L2.start N (ws ++ [.ref p])).set ds.length (some (.ref p)) = L2.start N (ws ++ [.ref p]) := by
    refine List.ext_getElem? fun l => ?_
    by_cases hl : ds.length = l
    · subst hl
      have hlen : ds.length < (L2.start N (ws ++ [.ref p])).length := by
        rw [← r0.len, ln]
        omega
      rw [List.getElem?_set_self hlen]
      unfold L2.start
      rw [List.getElem?_append_left (by rw [List.length_map, List.length_append, r.length]; simp), List.getElem?_map, List.getElem?_append_right (by rw [r.length]; exact Nat.le_refl _), r.length]
      simp
    · rw [List.getElem?_set_ne hl]
  rw [es] at r4
  exact r4
theorem def_okM {x : Str} {st : Stmt} {N ps : List Str} {k : Nat} {F : FnM} (j : Nat) (D : HasD K mg x st) (S : FnScope N ps (defScope st)) (bn : ∀ f fd, FunD K x x (defArgs st) (defBody st) (defScope st) [] [] f fd → Binds K fd ps [])
    (len : ∀ ds xss Q Ex, F ds xss Q Ex → ds.length + 1 = ps.length) (hj : ps.length ≤ j) (hN : j < N.length)
    (hd : ∀ (cdv : Value) (A : Around) (outer : List Env) (s : Shared) (H : Hp) (E : XK) (f : Addr), Bd (cxOf (L2.CX P w) P w K mg base N x (defScope st) f cdv A outer s H E) E k → Takes (cxOf (L2.CX P w) P w K mg base N x (defScope st) f cdv A outer s H E) (fun cls d _ H => E cls d H) →
      ∃ wb, JSs T (cxOf (L2.CX P w) P w K mg base N x (defScope st) f cdv A outer s H E) E (defBody st) wb ∧ ∀ (p : Addr) (cs : List (Addr × List Pd.D)) ds Q Ex, (cs.map (·.1)).Nodup → F ds (cs.map (·.2)) Q Ex → wb (dEnds Q Ex) (startM N ds p cs j)) : DefM P w K mg base T x (k + 1) ps F := by
  obtain ⟨f, fd, D, gm⟩ := D
  have bn' := bn f fd D
  refine ⟨f, fd, gm, D.kp, bn', ?_, by
    obtain ⟨oc, od, dV, kV, doc, pm, an, cdv, ct, osl, _, lk, _⟩ := D.ex
    exact ⟨oc, od, osl, lk⟩⟩
  refine D.ok S (fun vs H Q E h => ?_) (fun cdv A outer s H vs Q E hr h => ?_)
  · obtain ⟨wd, ds, P, Ex, us, p, cs, ws, rfl, _, r, _, h, _⟩ := h
    rw [List.length_append, r.length]
    exact len _ _ _ _ h
  · obtain ⟨wd, ds, P1, Ex, us, p, cs, ws, rfl, g, r, m, h, xo, kk⟩ := h
    have tk : Takes (cxOf (L2.CX P w) P w K mg base N x (defScope st) f cdv A outer s H E) (fun cls d _ H => E cls d H) := takes_of rfl rfl rfl rfl
    have B : Bd (cxOf (L2.CX P w) P w K mg base N x (defScope st) f cdv A outer s H E) E k := ⟨hr, passes_call tk fun _ _ _ _ h => h, passes_of rfl, rfl, S.nd⟩
    obtain ⟨wb, hjs, hw⟩ := hd cdv A outer s H E f B tk
    have hlt : ds.length < j := by have := len _ _ _ _ h; omega
    refine ⟨_, hjs, ⟨wd, drp H (adr p cs), []⟩, wd, startM N ds p cs j, dEnds P1 Ex, rel_startM g r m hlt hN, hw p cs ds P1 Ex m.nd h, ⟨xo, fun env' hn σ' wd' H' le r' => ?_, fun d hd v wd' H' o' g' k' rp => kk d hd v wd' H' o' g' k' rp, fun _ z => z.elim, fun _ z => z.elim⟩⟩
    exact kk .non hn .non wd' H' r'.ord r'.good r'.keep .non
end
end Pd

namespace Pd
open PySem PySem.Spec PyProof.Rows L2 LamX
section
variable {X : Cx} {T : List (Addr × Str)} {E : XK} {k : Nat}
def wPopC (j : Nat) (a : W D) : W D := fun env Q ex => a env (fun x env1 => celIs env1 j x fun p xs => ∃ z, xs.getLast? = some z ∧ Q z (env1.set j (some (.cels (celSet (celsOf (gt env1 j)) p xs.dropLast))))) ex
theorem je_popC (j : Nat) {o : Expr} {apos pos : Pos} {a : W D} (ha : JE T X E o a) (hbase : attributeBase o "pop" X.env (eval o X.env) = eval o X.env := by rfl) (hline : (apos.endLine == pos.line) = true := by rfl) :
    JE T X E (.Call (.Attribute o "pop" apos) [] [] pos) (wPopC j a) :=
  peI (pe_bm0 F.plainAttrs_list F.slot_list_pop F.type_list_pop mt_pop ha hbase hline) fun σ H Q ⟨c, wd, env, P, Ex, rl, h, xo, kk⟩ => by
    refine ⟨c, wd, env, _, Ex, rl, h, xo, fun x env1 h1 v wd1 H1 le1 r1 rp1 => ?_⟩
    obtain ⟨p, xs, rfl, m, z, ez, h1⟩ := celIs_inv h1
    cases rp1
    obtain ⟨vs, z2, z6⟩ := r1.celAt m
    rw [List.getLast?_eq_getElem?] at ez
    obtain ⟨w', ew, rw'⟩ := z6.get ez
    rw [← z6.length] at ew
    refine ⟨.inl ⟨rfl, vs, .inl (.inl z2)⟩, _, vs, w', rfl, rfl, z2, ew, kk _ _ h1 w' wd1 _ le1 (r1.mutCel m ?_ ?_) rw'⟩
    · rw [List.dropLast_eq_take, List.dropLast_eq_take, z6.length]
      exact z6.take _
    · rw [List.length_dropLast]
      exact Nat.le_trans (Nat.sub_le _ _) (r1.good.siz _ _ z2)
end
end Pd

namespace Pd
open PySem PySem.Spec PyProof.Rows L2 LamX
def hid : Option Sl → Option Sl
  | some (.d x) => some (.d x)
  | _ => none
def hids : PEnv → PEnv
  | [] => []
  | s :: r => hid s :: hids r
def mask : Nat → List D → PEnv → PEnv
  | _, _, [] => []
  | 0, xs, _ :: r => some (.d (.lst xs)) :: hids r
  | n + 1, xs, s :: r => hid s :: mask n xs r
def atom : D → Bool
  | .non => true
  | .bl _ => true
  | .int _ => true
  | .str _ => true
  | _ => false
theorem hids_len : ∀ env : PEnv, (hids env).length = env.length
  | [] => rfl
  | s :: r => by simp [hids, hids_len r]
theorem mask_len : ∀ (i : Nat) (xs : List D) (env : PEnv), (mask i xs env).length = env.length
  | i, _, [] => by cases i <;> rfl
  | 0, xs, s :: r => by simp [mask, hids_len]
  | n + 1, xs, s :: r => by simp [mask, mask_len n xs r]
theorem hid_some {o : Option Sl} {s : Sl} (h : hid o = some s) : ∃ x, s = .d x ∧ o = some (.d x) := by
  unfold hid at h
  split at h
  · cases h; exact ⟨_, rfl, rfl⟩
  · cases h
theorem hids_get : ∀ {env : PEnv} {j : Nat} {s : Sl}, (hids env)[j]? = some (some s) → ∃ x, s = .d x ∧ env[j]? = some (some (.d x))
  | [], j, s, h => by simp [hids] at h
  | o :: r, 0, s, h => by
    simp [hids] at h
    obtain ⟨x, e1, e2⟩ := hid_some h
    exact ⟨x, e1, by simp [e2]⟩
  | o :: r, j + 1, s, h => by
    simp [hids] at h
    simpa using hids_get h
theorem mask_get : ∀ {i : Nat} {xs : List D} {env : PEnv} {j : Nat} {s : Sl}, (mask i xs env)[j]? = some (some s) → (j = i ∧ s = .d (.lst xs)) ∨ ∃ x, s = .d x ∧ env[j]? = some (some (.d x))
  | i, xs, [], j, s, h => by cases i <;> simp [mask] at h
  | 0, xs, o :: r, 0, s, h => by simp [mask] at h; exact .inl ⟨rfl, h.symm⟩
  | 0, xs, o :: r, j + 1, s, h => by
    simp [mask] at h
    exact .inr (by simpa using hids_get h)
  | n + 1, xs, o :: r, 0, s, h => by
    simp [mask] at h
    obtain ⟨x, e1, e2⟩ := hid_some h
    exact .inr ⟨x, e1, by simp [e2]⟩
  | n + 1, xs, o :: r, j + 1, s, h => by
    simp [mask] at h
    rcases mask_get h with ⟨a, b⟩ | ⟨x, a, b⟩
    · exact .inl ⟨by omega, b⟩
    · exact .inr ⟨x, a, by simpa using b⟩
theorem rep_atom {K : PySem.W.Frag} {wd wd' : Wd} {v : V} {d : D} (h : atom d = true) (r : Rep K wd v d) : Rep K wd' v d := by
  cases r <;> first | exact .non | exact .bl _ | exact .int _ | exact .str _ | cases h
theorem reps_atom {K : PySem.W.Frag} {wd wd' : Wd} : ∀ {vs : List V} {ds : List D}, (∀ d ∈ ds, atom d = true) → Reps K wd vs ds → Reps K wd' vs ds
  | _, _, _, .nil => .nil
  | _, _, h, .cons a b => .cons (rep_atom (h _ List.mem_cons_self) a) (reps_atom (fun d hd => h d (List.mem_cons_of_mem _ hd)) b)
section
variable {K : PySem.W.Frag} {X : Cx} {T : List (Addr × Str)} {E : XK} {k : Nat} {c : Ctx} {wd : Wd} {env : PEnv} {σ : L2.St} {H : Hp}
theorem Rel.thaw (r : Rel K T c wd env σ H) {wd1 wd2 : Wd} {env2 : PEnv} {H2 : Hp} (le1 : Le wd wd1) (hb : ∀ b, b ∈ wd1.B → b ∈ wd.B) (le2 : Le wd1 wd2) (r2 : Rel K T ⟨wd1, H, []⟩ wd2 env2 σ H2) : Rel K T c wd env σ H2 := by
  have kp : Keep wd H H2 := ⟨fun a o h nb t => r2.keep.st a o h (fun z => nb (hb a z)) t, fun a h => r2.keep.dm a h⟩
  have gd : Good T wd H2 := ⟨(le1.trans le2).m.trans r2.good.sub, r.good.ntb, fun b h => ⟨(r.good.box b h).1, (r2.good.box b ((le1.trans le2).b b h)).2⟩, r2.good.tab, r2.good.siz⟩
  refine ⟨r.ord, gd, r.keep.trans r.ord kp, r.len, r.dat, fun i ys e => ?_, r.sep, fun q hq => ?_, r.ext.go r.good (Ord.refl _ _) gd kp⟩
  · obtain ⟨p, vs, a1, a2, a3, a4, a5, a6⟩ := r.own i ys e
    exact ⟨p, vs, a1, kp.st p _ a2 a4 noTb_lst, a3, a4, a5, a6⟩
  · obtain ⟨y1, y2, y3, y4⟩ := r.pin q hq
    exact ⟨kp.st _ _ y1 y3 noTb_lst, y2, y3, y4⟩
theorem rF.thaw (r : Rel K T c wd env σ H) {wd1 wd2 : Wd} {env2 : PEnv} {H2 : Hp} {v : V} {ds : List D} (le1 : Le wd wd1) (le2 : Le wd1 wd2) (at_ : ∀ d ∈ ds, atom d = true) (f : rF K ⟨wd1, H, []⟩ wd2 env2 σ H2 v ds) : rF K c wd env σ H2 v ds := by
  obtain ⟨q, vs, rfl, h1, h2, h3, h4, h5, h6, h7⟩ := f
  have h4' : Nt H q := h4
  have ne : ∀ (a : Addr) (us : List V), H a = some (.lst us) → a ≠ q := fun a us e z => h4'.no (z ▸ e) noTb_lst
  have hm : wd.M q = none := by
    cases z : wd.M q with
    | none => rfl
    | some o => have := (le1.trans le2).m q o z; rw [h2] at this; cases this
  refine ⟨q, vs, rfl, h1, hm, fun z => h3 ((le1.trans le2).b q z), r.keep.dm q h4', reps_atom at_ h5, ⟨fun i ys e z => ?_, fun i cs e y hy => ?_⟩, fun y hy => ne _ _ (r.pin y hy).1⟩
  · obtain ⟨p, us, a1, a2, _⟩ := r.own i ys e
    rw [a1] at z
    cases z
    exact ne _ _ a2 rfl
  · obtain ⟨⟨us, a1, _⟩, _⟩ := r.ext.cel i cs e y hy
    exact ne _ _ a1
end
end Pd

namespace Pd
open PySem PySem.Spec PyProof.Rows L2 LamX
def wThawC (i j : Nat) (w : W (List D)) : W (List D) := fun env Q _ => match gt env i with
  | some (.own rs) => ∃ qs : List (Addr × List D), rs = qs.map (fun q => D.raw (.ref q.1)) ∧ (∀ q ∈ qs, q ∈ celsOf (gt env j)) ∧ w (mask i (qs.map fun q => .lst q.2) env) (fun ds _ => (∀ d ∈ ds, atom d = true) ∧ Q ds env) (fun _ => False)
  | _ => False
def wThawT (i j : Nat) (w : W Bool) : W Bool := fun env Q _ => match gt env i with
  | some (.own rs) => ∃ qs : List (Addr × List D), rs = qs.map (fun q => D.raw (.ref q.1)) ∧ (∀ q ∈ qs, q ∈ celsOf (gt env j)) ∧ w (mask i (qs.map fun q => .lst q.2) env) (fun b _ => Q b env) (fun _ => False)
  | _ => False
section
variable {K : PySem.W.Frag} {X : Cx} {T : List (Addr × Str)} {E : XK} {k : Nat} {c : Ctx} {wd : Wd} {env : PEnv} {σ : L2.St} {H : Hp}
theorem Rel.maskedC (r : Rel K T c wd env σ H) {i j : Nat} {qs : List (Addr × List D)} (e : env[i]? = some (some (Sl.own (qs.map fun q => D.raw (.ref q.1))))) (hm : ∀ q ∈ qs, q ∈ celsOf (gt env j)) :
    ∃ wd1, Le wd wd1 ∧ (∀ b, b ∈ wd1.B → b ∈ wd.B) ∧ Rel K T ⟨wd1, H, []⟩ wd1 (mask i (qs.map fun q => .lst q.2) env) σ H := by
  obtain ⟨p, vs, a1, a2, a3, a4, a5, a6⟩ := r.own i _ e
  have r0 := (r.noneAt j).noneAt i
  have at_ : ∀ {l : Nat} {s : Sl}, ((env.set j none).set i none)[l]? = some (some s) → env[l]? = some (some s) ∧ l ≠ j ∧ l ≠ i := fun {l s} e => by
    rcases get_set e with ⟨_, e, _⟩ | ⟨n1, e⟩
    · cases e
    rcases get_set e with ⟨_, e, _⟩ | ⟨n2, e⟩
    · cases e
    · exact ⟨e, fun z => n2 z.symm, fun z => n1 z.symm⟩
  have cels : ∃ cs : List (Addr × List D), (cs.map (·.1)).Nodup ∧ (∀ q ∈ qs, q ∈ cs) ∧ (∀ q ∈ cs, rF K c wd ((env.set j none).set i none) σ H (.ref q.1) q.2) ∧ ∀ q ∈ cs, q.1 ≠ p := by
    cases eg : gt env j with
    | none => exact ⟨[], List.nodup_nil, fun q hq => by rw [eg] at hm; exact hm q hq, (fun _ z => nomatch z), (fun _ z => nomatch z)⟩
    | some s =>
      cases s with
      | cels cs =>
        have ej := gt_eq _ _ eg
        refine ⟨cs, r.ext.cnd j cs ej, fun q hq => by have := hm q hq; rw [eg] at this; exact this, fun q hq => ?_, fun q hq z => (r.ext.cel j cs ej q hq).2.2.2.2 i _ e (by rw [a1, z])⟩
        obtain ⟨⟨us, g1, g2⟩, g3, g4, g5, g6⟩ := r.ext.cel j cs ej q hq
        exact ⟨q.1, us, rfl, g1, g3, g4, g5, g2, ⟨fun l ys z => g6 l ys (at_ z).1, fun l ds z q' hq' => r.ext.ce1 l j ds cs (at_ z).1 ej (at_ z).2.1 q' hq' q hq⟩, fun y hy z => (r.pin y hy).2.2.2.c j cs ej q hq z.symm⟩
      | _ => exact ⟨[], List.nodup_nil, fun q hq => by have := hm q hq; rw [eg] at this; exact this, (fun _ z => nomatch z), (fun _ z => nomatch z)⟩
  obtain ⟨cs, nd, sub, fr, np⟩ := cels
  obtain ⟨wd1, le1, r1, rp1, eb, em⟩ := Rel.frzAll ((p, qs.map fun q => D.raw (.ref q.1)) :: cs) r0 (List.nodup_cons.mpr ⟨fun z => by
    obtain ⟨q, hq, z⟩ := List.mem_map.mp z
    exact np q hq z, nd⟩) fun q hq => by
      rcases List.mem_cons.mp hq with rfl | hq
      · exact ⟨p, vs, rfl, a2, a3, a4, a5, a6, ⟨fun l ys z y => (at_ z).2.2 (r.sep l i _ _ p (at_ z).1 e y a1), fun l ds z q hq y => (r.ext.cel l ds (at_ z).1 q hq).2.2.2.2 i _ e (by rw [a1, y])⟩, fun y hy z => (r.pin y hy).2.2.2.o i _ e (by rw [a1, z])⟩
      · exact fr q hq
  have rep : Rep K wd1 (.ref p) (.lst (qs.map fun q => D.lst q.2)) := by
    cases rp1 _ List.mem_cons_self with
    | lst hs rs => exact .lst hs (reps_raw rs fun q hq => rp1 q (List.mem_cons_of_mem _ (sub q hq)))
  refine ⟨wd1, le1, fun b hb => by rw [← eb]; exact hb, Ord.refl _ _, r1.good, Keep.refl _ _, by rw [mask_len]; exact r.len, fun l x z => ?_, fun l ys z => ?_, fun l m ys zs q z => ?_, fun q hq => (nomatch hq), fun l q C fs z => ?_, fun l m q q' C C' fs gs z => ?_, fun l cs z => ?_, fun l cs z => ?_, fun l m cs ds z => ?_, fun l lk kvs z => ?_, fun l m lk lk' ks ls q z => ?_⟩
  · rcases mask_get z with ⟨rfl, y⟩ | ⟨x', y, z'⟩
    · cases y; exact ⟨_, a1, rep⟩
    · cases y
      obtain ⟨v, a, b⟩ := r.dat l x z'
      exact ⟨v, a, b.mono le1⟩
  all_goals (rcases mask_get z with ⟨_, y⟩ | ⟨x', y, _⟩ <;> cases y)
theorem lift_thawC {i j : Nat} {w : W (List D)} {Q : VK} (h : lift K T (rF K) E (wThawC i j w) σ H Q) : lift K T (rF K) E w σ H Q := by
  obtain ⟨c, wd, env, P, Ex, r, h, xo, kk⟩ := h
  unfold wThawC at h
  split at h
  · rename_i rs e
    obtain ⟨qs, rfl, hm, h⟩ := h
    obtain ⟨wd1, le1, hb, r1⟩ := r.maskedC (gt_eq _ _ e) hm
    exact ⟨_, wd1, _, _, _, r1, h, fun x hx => hx.elim, fun ds env2 ⟨at_, q⟩ v wd2 H2 le2 r2 f => kk ds env q v wd H2 (Le.refl _) (r.thaw le1 hb le2 r2) (rF.thaw r le1 le2 at_ f)⟩
  · exact h.elim
theorem lift_thawT {i j : Nat} {w : W Bool} {Q : Bool → Hp → Prop} (h : lift K T rT E (wThawT i j w) σ H Q) : lift K T rT E w σ H Q := by
  obtain ⟨c, wd, env, P, Ex, r, h, xo, kk⟩ := h
  unfold wThawT at h
  split at h
  · rename_i rs e
    obtain ⟨qs, rfl, hm, h⟩ := h
    obtain ⟨wd1, le1, hb, r1⟩ := r.maskedC (gt_eq _ _ e) hm
    exact ⟨_, wd1, _, _, _, r1, h, fun x hx => hx.elim, fun b env2 q v wd2 H2 le2 r2 f => kk b env q v wd H2 (Le.refl _) (r.thaw le1 hb le2 r2) f⟩
  · exact h.elim
theorem jf_thawC (i j : Nat) {e : Expr} {w : W (List D)} (h : JF T X E e w) : JF T X E e (wThawC i j w) := peI h fun σ H Q z => lift_thawC z
theorem jt_thawC (i j : Nat) {e : Expr} {w : W Bool} (h : JT T X E e w) : JT T X E e (wThawT i j w) := ptI h fun σ H Q z => lift_thawT z
end
end Pd

namespace Pd
open PySem PySem.Spec PyProof.Rows L2 LamX
def wIxC (j : Nat) (a b : W D) : W D := fun env Q ex => a env (fun x env1 => celIs env1 j x fun _ _ => b env1 (fun y env2 => celIs env2 j x fun _ xs => ∃ z, dIdx (.lst xs) y = some z ∧ Q z env2) ex) ex
def sSetC (j : Nat) (a iw ew : W D) : WS := fun pe env => ew env (fun v env1 => a env1 (fun x env2 => celIs env2 j x fun _ _ => iw env2 (fun n env3 => celIs env3 j x fun p xs => match n with
  | .int n => ∃ i, ixN xs.length n = some i ∧ pe.nx (env3.set j (some (.cels (celSet (celsOf (gt env3 j)) p (xs.set i v)))))
  | _ => False) pe.ex) pe.ex) pe.ex
section
variable {X : Cx} {T : List (Addr × Str)} {E : XK} {k : Nat}
theorem je_ixC (j : Nat) {o y : Expr} {a b : W D} {pos : Pos} (ha : JE T X E o a) (hb : JE T X E y b) (hs : PlainIx y) : JE T X E (.Subscript o y pos) (wIxC j a b) :=
  peI (pe_ix ix_list ha hb hs) fun σ H Q ⟨c, wd, env, P, Ex, rl, h, xo, kk⟩ => by
    refine ⟨c, wd, env, _, Ex, rl, h, xo, fun x env1 h1 v wd1 H1 le1 r1 rp1 => ?_⟩
    obtain ⟨p, xs0, rfl, m0, h1⟩ := celIs_inv h1
    cases rp1
    refine ⟨c, wd1, env1, _, Ex, r1, h1, xo, fun y1 env2 h2 u wd2 H2 le2 r2 rp2 => ?_⟩
    obtain ⟨p', xs, e', m, z, e2, hq⟩ := celIs_inv h2
    clear h2
    cases e'
    obtain ⟨vs, z2, z6⟩ := r2.celAt m
    cases rp2 <;> first | cases e2 | skip
    obtain ⟨w, e3, r3⟩ := atI_reps z6 e2
    exact ⟨_, vs, _, w, rfl, rfl, .inl (.inl z2), e3, kk z env2 hq w wd2 H2 (le1.trans le2) r2 r3⟩
theorem js_setC (j : Nat) {o y e : Expr} {a iw ew : W D} {p2 pos : Pos} (ha : JE T X E o a) (hi : JE T X E y iw) (he : JE T X E e ew) (hs : swapsWithSole [.Subscript o y p2] e pos.line X.env = pure false := by rfl) (hw : swappedStores [.Subscript o y p2] e X.env = pure none := by rfl)
    (h1 : (assignEach [.Subscript o y p2] X.env).map (·.2) = [assign (.Subscript o y p2) X.env] := by rfl)
    (hasg : ∀ v, assign (.Subscript o y p2) X.env v = (do
      let ov ← holding [v] (eval o X.env)
      let iv ← holding [v, ov] (eval y X.env)
      standAt p2
      holding [v, ov, iv] (setItem ov iv v)
      release [v, ov, iv] []) := by intro _; rfl) : JS T X E (.Assign [.Subscript o y p2] e pos) (sSetC j a iw ew) :=
  psI (ps_asg he (pg_sub ha hi set_list hasg) hs hw h1) fun D σ H ⟨c, wd, env, pe, rl, h, o⟩ => by
    refine ⟨c, wd, env, _, _, rl, h, o.ex, fun v env1 h1 u wd1 H1 le1 r1 rp1 => ⟨c, wd1, env1, _, _, r1, h1, o.ex, fun x env2 h2 ux wd2 H2 le2 r2 rp2 => ?_⟩⟩
    obtain ⟨p, xs0, rfl, m0, h2⟩ := celIs_inv h2
    cases rp2
    refine ⟨c, wd2, env2, _, _, r2, h2, o.ex, fun n env3 h3 w wd3 H3 le3 r3 rp3 => ?_⟩
    obtain ⟨p', xs, e', m, h4⟩ := celIs_inv h3
    clear h3
    cases e'
    obtain ⟨vs, z2, z6⟩ := r3.celAt m
    split at h4
    · rename_i n
      cases rp3
      obtain ⟨i, ej, h3⟩ := h4
      have hz : (vs.set i u).length ≤ sizeLine := by
        rw [List.length_set]
        exact r3.good.siz _ _ z2
      exact ⟨_, vs, n, i, rfl, rfl, z2, by rw [z6.length]; exact ej, o.nx _ h3 _ wd3 _ ((le1.trans le2).trans le3) (r3.mutCel m (z6.set i (Rep.mono (le2.trans le3) rp1)) hz)⟩
    · exact h4.elim
end
end Pd

namespace Pd
open PySem PySem.Spec PyProof.Rows L2 LamX
section
variable {X : Cx} {T : List (Addr × Str)} {E : XK} {k : Nat}
end
end Pd

namespace Pd
open PySem PySem.Spec PyProof.Rows L2 LamX
section
variable {X : Cx} {T : List (Addr × Str)} {E : XK} {k : Nat} {tg tg1 : Expr}
end
section
variable {X : Cx} {T : List (Addr × Str)} {E : XK} {k : Nat}
theorem jt_neO {C C' : Str} {F : Fn} {x y : Expr} {a b : W D} {pos : Pos} {j : Nat} (B : Bd X E k) (G : MethOk X.prog X.w X.K X.mg X.base T C "__eq__" j F) (n : NeO X.K C) (hn : PySem.W.notFirst X.K (He.ga X.K C) (.ref (He.ga X.K C')) = true) (ha : JE T X E x a) (hb : JE T X E y b)
    (hj : j < k := by decide) (hm : behindInMarks .NotEq y = false := by rfl) : JT T X E (.Compare x [.NotEq] [y] pos) (wTest (wNeO C C' F a b)) := by
  obtain ⟨f, g1, g2⟩ := G.ex
  refine ptI (pt_cmpR (op_neO g2 (B.room.mono (Nat.succ_le_of_lt hj)).in1 g1 hn n.ne n.ob B.pass) ha hb hm) fun σ H Q ⟨c, wd, env, P, Ex, r, h, xo, kk⟩ => ?_
  refine ⟨c, wd, env, _, Ex, r, h, xo, fun x env1 h1 v wd1 H1 le1 r1 rp1 => ⟨c, wd1, env1, _, Ex, r1, h1, xo, fun y env2 h2 u wd2 H2 le2 r2 rp2 => ?_⟩⟩
  dsimp only at h2
  split at h2
  · obtain ⟨rfl, rfl, h2⟩ := h2
    have left := Rep.mono le2 rp1
    cases left with
    | ins hm1 en1 er1 =>
      cases rp2 with
      | ins hm2 en er =>
        refine ⟨_, _, _, _, _, _, rfl, rfl, r2.good.sub _ _ hm1, r2.good.sub _ _ hm2, wd2, [_, _], _, Ex, r2.good, .cons (.ins hm1 en1 er1) (.cons (.ins hm2 en er) .nil), h2, xo.into r2.ord r2.keep, fun d ⟨t, ed, hd⟩ v wd3 H3 o3 g3 k3 rp3 => ?_⟩
        subst ed
        cases rp3
        exact ⟨t, rfl, !t, rfl, kk (!t) env2 hd _ wd3 H3 ((le1.trans le2).trans o3.le) (r2.go o3 g3 k3) rfl⟩
  · exact h2.elim
end
end Pd

namespace Zl
open PySem
section
variable {prog : Program} {w : World} {A : Around} {E : Value → Shared → Prop}
end
end Zl
namespace Pd
open PySem PySem.Spec PyProof.Rows L2 LamX
section
variable {X : Cx} {T : List (Addr × Str)} {E : XK} {k : Nat}
end
end Pd

namespace Pr
open PySem PySem.Spec PyProof.Rows L2 LamX Pd
open Ta (Tb lnD tbD wd lsum csum cl colI)
open Tt (Nl Tl Ll rws rwD trD Gd)
open Qt (To)
open Eu (S bi Hf opn won Og Ev)
def badO : Xc := ⟨"InvalidOperation", []⟩
abbrev rowsD (rs : List (List Int)) : D := .lst (rs.map Li)
def cel (n : Nat) (b : Nat → Nat → Bool) : List (List Int) := (List.range n).map fun i => (List.range n).map fun j => if b i j then 1 else 0
def bG (G : Nat → List Nat) (i j : Nat) : Bool := decide (j ∈ G i)
def dgB (rs : List (List Int)) : Bool := (List.range rs.length).all fun i => decide (cl rs i i = 0)
def smB (rs : List (List Int)) : Bool := (List.range rs.length).all fun i => decide ((lsum rs).getD i 0 + (colI rs i).sum = (rs.length : Int) - 1)
def halfB (c : Int) (rs : List (List Int)) : Bool := decide (c = 1) && (decide (wd rs = rs.length) && (dgB rs && smB rs))
abbrev rsL (n : Nat) (G : Nat → List Nat) : D := .lst ((List.range n).map fun i => Ll (G i))
def prD (q : Nat × Nat) : D := .tup [.int (q.1 : Int), .int (q.2 : Int)]
def Out (n : Nat) (b : Nat → Nat → Bool) (G : Nat → List Nat) : Prop := Gd n G ∧ (∀ i, i < n → (G i).length = S n fun j => bi (b i j)) ∧ ∀ i j, i < n → j < n → b i j = true → b j i = false → j ∈ G i
abbrev F_is_integer := Ta.F_is_integer
abbrev F_is_from := Ta.F_is_from
abbrev F_is_cap := Ta.F_is_cap
abbrev F_is_line := Ta.F_is_line
abbrev F_are_lines := Ta.F_are_lines
abbrev F_Table_init := Ta.F_Table_init
abbrev I_Table := Ta.I_Table
abbrev F_Table_of := Ta.F_Table_of
abbrev F_Table_line_sums := Ta.F_Table_line_sums
abbrev F_Table_column_sums := Ta.F_Table_column_sums
abbrev F_is_ascending := Tt.F_is_ascending
abbrev F_are_indices := Tt.F_are_indices
abbrev F_are_results := Tt.F_are_results
abbrev F_Tournament_init := Tt.F_Tournament_init
abbrev I_Tournament := Tt.I_Tournament
abbrev F_Tournament_of := Tt.F_Tournament_of
abbrev F_Tournament_scores := Tt.F_Tournament_scores
abbrev F_require_index := Tt.F_require_index
abbrev F_Tournament_beats := Tt.F_Tournament_beats
abbrev F_L_numbers := Ts.F_L_numbers
abbrev F_L_cast := Ts.F_L_cast
abbrev F_L_any_wins := Tp.F_L_any_wins
abbrev F_L_pick := Tp.F_L_pick
abbrev F_L_odd_one := Tp.F_L_odd_one
def F_Table_eq : Fn := fun ds Q _ => ∃ c rs, ds = [tbD c rs, tbD c rs] ∧ Tb c rs ∧ Q (.bl true)
def F_Tournament_eq : Fn := fun ds Q _ => ∃ n G, ds = [trD n G, trD n G] ∧ Gd n G ∧ Q (.bl true)
def F_require_tournament : Fn := fun ds Q _ => ∃ fs, ds = [.ins "Tournament" fs] ∧ Q .non
def F_table_of_tournament : Fn := fun ds Q _ => ∃ n G, ds = [trD n G] ∧ Gd n G ∧ n ≤ 12 ∧ Q (tbD 1 (cel n (bG G)))
def F_is_half : Fn := fun ds Q _ => ∃ c rs, ds = [tbD c rs] ∧ Tb c rs ∧ Q (.bl (halfB c rs))
def F_is_half_table : Fn := fun ds Q _ => ∃ x, ds = [x] ∧ ((∃ c rs, x = tbD c rs ∧ Tb c rs ∧ Q (.bl (halfB c rs))) ∨ ((Tp.oddD x = true ∨ ∃ n G, x = trD n G) ∧ Q (.bl false)))
def F_halves_of : Fn := fun ds Q _ => ∃ n op, ds = [.lst ((List.range n).map fun i => Ll (op i))] ∧ n ≤ 12 ∧ Og n op ∧ ∀ L, Ev n op L → L.length ≤ 1000 → Q (.lst (L.map prD))
def F_halved : Fn := fun ds Q Ex => ∃ c rs, ds = [tbD c rs] ∧ Tb c rs ∧ ((∃ n b, c = 1 ∧ rs = cel n b ∧ Hf n b ∧ 1 ≤ n ∧ n ≤ 12 ∧ ∀ G, Out n b G → Q (trD n G)) ∨ (halfB c rs = false ∧ Ex badO))
def F_L_played : Fn := fun ds Q _ => ∃ n G, ds = [rsL n G] ∧ Gd n G ∧ Q (trD n G)
def F_L_lines : FnF := fun ds Q _ => ∃ n G, ds = [rsL n G] ∧ 1 ≤ n ∧ n ≤ 16 ∧ Q ((cel n (bG G)).map Li)
def F_L_linesC : FnC := fun ds Q _ => ∃ n G, ds = [rsL n G] ∧ 1 ≤ n ∧ n ≤ 16 ∧ Q ((cel n (bG G)).map fun r => r.map D.int)
def F_L_exchanged : FnM := fun ds xss Q _ => ∃ p n b, ds = [.box p] ∧ xss = (cel n b).map (fun r => r.map D.int) ∧ 1 ≤ n ∧ n ≤ 12 ∧ Hf n b ∧ ∀ b', Hf n b' → Q (rowsD (cel n b'))
def F_L_is_half : Fn := fun ds Q _ => ∃ (c : Int) (rs : List (List Int)), ds = [rowsD rs, .int c] ∧ Tb 1 rs ∧ Q (.bl (halfB c rs))
def F_L_halved_right : Fn := fun ds Q _ => ∃ n b, ds = [tbD 1 (cel n b), rowsD (cel n b)] ∧ Hf n b ∧ 1 ≤ n ∧ n ≤ 12 ∧ Q (.bl true)
def F_L_near_cells : Fn := fun ds Q _ => ∃ p n b, ds = [.box p, rowsD (cel n b)] ∧ 1 ≤ n ∧ n ≤ 12 ∧ ∀ rs, Tb 1 rs → Q (rowsD rs)
def F_L_right : Fn := fun ds Q _ => ∃ p, ds = [.box p] ∧ Q (.bl true)
def F_law : Fn := fun ds Q _ => ∃ ns, ds = [.scr ns] ∧ ns.length ≤ 63 ∧ Q (.bl true)
end Pr

namespace Pr
open PySem PySem.Spec PyProof.Rows L2 LamX Pd
def cls_L_met : List Str := ["InvalidOperation"]
def hs_L_met : List Hq := [⟨"InvalidOperation", .non⟩]
def N_is_integer : List Str := ["value"]
def w_is_integer : WS := (sRet (wAnd (w1 (dIsi "int") (wVar 0)) (wNot (w1 (dIsi "bool") (wVar 0)))))
def N_is_from : List Str := ["value", "first", "last"]
def w_is_from : WS := (sRet (wAnd (wCall F_is_integer (wCons (wVar 0) wNil)) (wChain dLe dLe (wVar 1) (wVar 0) (wVar 2))))
def N_is_cap : List Str := ["value"]
def w_is_cap : WS := (sRet (wCall F_is_from (wCons (wVar 0) (wCons (W.ret (.int 1)) (wCons (W.ret (.int 9)) wNil)))))
def N_is_line : List Str := ["cap", "value", "cell"]
def w_is_line : WS := (sSeq (sIf (tOrP (tNotP (wTest (w1 (dIsi "tuple") (wVar 1)))) (tNotP (wTest (wChain dLe dLe (W.ret (.int 1)) (w1 dLen (wVar 1)) (W.ret (.int 12)))))) (sRet (W.ret (.bl false))) sNil) (sRet (x1 fAll (wLst (wComp (wItems (wVar 1)) (gNm 2) (W.ret true) (wCall F_is_from (wCons (wVar 2) (wCons (W.ret (.int 0)) (wCons (wVar 0) wNil)))) [2])))))
def N_are_lines : List Str := ["cap", "lines", "line"]
def w_are_lines : WS := (sSeq (sIf (tOrP (tNotP (wTest (wCall F_is_cap (wCons (wVar 0) wNil)))) (tOrP (tNotP (wTest (wChain dLe dLe (W.ret (.int 1)) (w1 dLen (wVar 1)) (W.ret (.int 12))))) (tNotP (wTest (x1 fAll (wLst (wComp (wItems (wVar 1)) (gNm 2) (W.ret true) (wCall F_is_line (wCons (wVar 0) (wCons (wVar 2) wNil))) [2]))))))) (sRet (W.ret (.bl false))) sNil) (sRet (x1 fAll (wLst (wComp (wItems (wVar 1)) (gNm 2) (W.ret true) (xBin fEq (w1 dLen (wVar 2)) (w1 dLen (xBin fIdx (wVar 1) (W.ret (.int 0))))) [2])))))
def N_Table_init : List Str := ["self", "cap", "lines"]
def w_Table_init : WS := (sSeq (sIf (tNotP (wTest (wCall F_are_lines (wCons (wVar 1) (wCons (wVar 2) wNil))))) (sRaise "InvalidTable") sNil) (sSeq (sFldO 0 "Table" "own_cap" (wVar 1)) (sFldO 0 "Table" "own_lines" (wVar 2))))
def N_Table_of : List Str := ["cls", "cap", "lines"]
def w_Table_of : WS := (sSeq (sIf (tNotP (wTest (w1 (dIsi "tuple") (wVar 2)))) (sRaise "InvalidTable") sNil) (sRet (wMakeL 0 "Table" I_Table (wCons (wVar 1) (wStar (wVar 2) wNil)))))
def N_Tournament_scores : List Str := ["self", "row"]
def w_Tournament_scores : WS := (sRet (w1 dTuple (wLst (wComp (wItems (wFld "Tournament" "own_beaten" (wVar 0))) (gNm 1) (W.ret true) (w1 dLen (wVar 1)) [1]))))
def N_L_numbers : List Str := ["_law_script", "_law_at", "_law_cell", "_law_whole", "_law_mixed"]
def w_L_numbers : WS := (sSeq (sSet 2 (wIf (wTest (wBin dLt (wVar 1) (w1 dLen (wVar 0)))) (xBin fIdx (wVar 0) (wVar 1)) (xBin fAdd (xBin fMul (W.ret (.int 71)) (wVar 1)) (W.ret (.int 43))))) (sSeq (sSet 3 (xBin fMod (w1 dInt (wN dAbs (wCons (wVar 2) wNil))) (xBin fPow (xBin fPow (W.ret (.int 10)) (W.ret (.int 61))) (W.ret (.int 9))))) (sSeq (sSet 4 (xBin fAdd (xBin fAdd (xBin fAdd (xBin fMul (wVar 3) (W.ret (.int 1000187))) (xBin fMul (W.ret (.int 9043)) (wVar 1))) (xBin fMul (W.ret (.int 53)) (w1 dInt (wBin dLt (wVar 2) (W.ret (.int 0)))))) (W.ret (.int 29)))) (sRet (wBox (wSz (wCons (wN dMax2 (wCons (W.ret (.int 0)) (wCons (wBin dSub (wVar 3) (xBin fPow (W.ret (.int 10)) (W.ret (.int 18)))) wNil))) (wCons (xBin fMod (w1 dInt (wVar 4)) (W.ret (.int 1152921504606847067))) (wCons (W.ret (.int 0)) wNil)))))))))
def N_Table_line_sums : List Str := ["self", "line"]
def w_Table_line_sums : WS := (sRet (w1 dTuple (wLst (wComp (wItems (wFld "Table" "own_lines" (wVar 0))) (gNm 1) (W.ret true) (x1 fSum (wVar 1)) [1]))))
def N_Table_column_sums : List Str := ["self", "column"]
def w_Table_column_sums : WS := (sRet (w1 dTuple (wLst (wComp (wZipS (wFld "Table" "own_lines" (wVar 0))) (gNm 1) (W.ret true) (x1 fSum (wVar 1)) [1]))))
def N_is_half : List Str := ["table", "many", "at", "line", "one", "other"]
def w_is_half : WS := (sSeq (sSet 1 (w1 dLen (wFld "Table" "own_lines" (wVar 0)))) (sSeq (sIf (tOrP (wTest (xBin fNe (wFld "Table" "own_cap" (wVar 0)) (W.ret (.int 1)))) (wTest (xBin fNe (w1 dLen (xBin fIdx (wFld "Table" "own_lines" (wVar 0)) (W.ret (.int 0)))) (wVar 1)))) (sRet (W.ret (.bl false))) sNil) (sSeq (sIf (wTest (x1 fAny (wLst (wComp (wEnum (wFld "Table" "own_lines" (wVar 0))) (gTupP (gsCons (gNm 2) (gsCons (gNm 3) gsNil)) 2) (W.ret true) (xBin fNe (xBin fIdx (wVar 3) (wVar 2)) (W.ret (.int 0))) [2, 3])))) (sRet (W.ret (.bl false))) sNil) (sRet (x1 fAll (wLst (wComp (wZip (wProp "Table" F_Table_line_sums (wVar 0)) (wProp "Table" F_Table_column_sums (wVar 0))) (gTupP (gsCons (gNm 4) (gsCons (gNm 5) gsNil)) 2) (W.ret true) (xBin fEq (xBin fAdd (wVar 4) (wVar 5)) (wBin dSub (wVar 1) (W.ret (.int 1)))) [4, 5])))))))
def N_is_half_table : List Str := ["value"]
def w_is_half_table : WS := (sRet (wAnd (w1 (dIsC ["Table", "Tournament"] "Table") (wVar 0)) (wCall F_is_half (wCons (wVar 0) wNil))))
def N_is_ascending : List Str := ["items", "one", "other"]
def w_is_ascending : WS := (sRet (x1 fAll (wLst (wComp (wZip (wVar 0) (wSl (wVar 0) (wPart (W.ret (.int 1))) (W.ret none))) (gTupP (gsCons (gNm 1) (gsCons (gNm 2) gsNil)) 2) (W.ret true) (wBin dLt (wVar 1) (wVar 2)) [1, 2]))))
def N_are_indices : List Str := ["value", "size", "one"]
def w_are_indices : WS := (sSeq (sIf (tOrP (tNotP (wTest (w1 (dIsi "tuple") (wVar 0)))) (tNotP (wTest (x1 fAll (wLst (wComp (wItems (wVar 0)) (gNm 2) (W.ret true) (wCall F_is_from (wCons (wVar 2) (wCons (W.ret (.int 0)) (wCons (wBin dSub (wVar 1) (W.ret (.int 1))) wNil)))) [2])))))) (sRet (W.ret (.bl false))) sNil) (sRet (wCall F_is_ascending (wCons (wVar 0) wNil))))
def N_are_results : List Str := ["beaten", "many", "other", "one", "player", "row"]
def w_are_results : WS := (sSeq (sSet 1 (w1 dLen (wVar 0))) (sSeq (sIf (tOrP (tNotP (wTest (wChain dLe dLe (W.ret (.int 1)) (wVar 1) (W.ret (.int 16))))) (tNotP (wTest (x1 fAll (wLst (wComp (wItems (wVar 0)) (gNm 5) (W.ret true) (wCall F_are_indices (wCons (wVar 5) (wCons (wVar 1) wNil))) [5])))))) (sRet (W.ret (.bl false))) sNil) (sSeq (sIf (wTest (x1 fAny (wLst (wComp (wEnum (wVar 0)) (gTupP (gsCons (gNm 4) (gsCons (gNm 5) gsNil)) 2) (W.ret true) (xBin fIn (wVar 4) (wVar 5)) [4, 5])))) (sRet (W.ret (.bl false))) sNil) (sRet (x1 fAll (wLst (wComp2 (wRng1 (wVar 1)) (gNm 2) (W.ret true) (wRng1 (wVar 2)) (gNm 3) (W.ret true) (xBin fNe (xBin fIn (wVar 3) (xBin fIdx (wVar 0) (wVar 2))) (xBin fIn (wVar 2) (xBin fIdx (wVar 0) (wVar 3)))) [2, 3] [3])))))))
def N_Tournament_init : List Str := ["self", "beaten"]
def w_Tournament_init : WS := (sSeq (sIf (tNotP (wTest (wCall F_are_results (wCons (wVar 1) wNil)))) (sRaise "InvalidTournament") sNil) (sFldO 0 "Tournament" "own_beaten" (wVar 1)))
def N_Tournament_of : List Str := ["cls", "beaten"]
def w_Tournament_of : WS := (sSeq (sIf (tNotP (wTest (w1 (dIsi "tuple") (wVar 1)))) (sRaise "InvalidTournament") sNil) (sRet (wMakeL 0 "Tournament" I_Tournament (wStar (wVar 1) wNil))))
def N_halves_of : List Str := ["open_pairs", "start", "left", "found", "at", "other", "others", "one", "*"]
def w_halves_of : WS := (sSeq (sParM2 2 3 (mF (wComp (wItems (wVar 0)) (gNm 6) (W.ret true) (wCell 8 (w1F dItems (wVar 6))) [6]) (mF (wSz wNil) mNil))) (sSeq (sFor (wRng1 (w1 dLen (wOwn 2))) (gNm 1) (sSeq (sSet 4 (wVar 1)) (sWhile (wThawT 2 8 (wTest (xBin fNe (xBin fIdx (wVar 2) (wVar 4)) (wLst (wSz wNil))))) (sSeq (sSet 5 (wPopC 8 (wIxOwn 2 (wVar 4)))) (sSeq (sSetIx 2 (wVar 5) (wCell 8 (wThawC 2 8 (wComp (wItems (xBin fIdx (wVar 2) (wVar 5))) (gNm 7) (wTest (xBin fNe (wVar 7) (wVar 4))) (wVar 7) [7])))) (sSeq (sDrop (wAppend 3 (wTup (wCons (wVar 4) (wCons (wVar 5) wNil))))) (sSet 4 (wVar 5)))))))) (sRet (wFrz 3))))
def N_halved : List Str := ["table", "open_pairs", "beaten", "lines", "players", "winner", "loser", "i", "j", "one", "*"]
def w_halved : WS := (sSeq (sIf (tNotP (wTest (w1 (dIsC ["Table", "Tournament"] "Table") (wVar 0)))) (sRaise "InvalidTable") sNil) (sSeq (sIf (tNotP (wTest (wCall F_is_half (wCons (wVar 0) wNil)))) (sRaise "InvalidOperation") sNil) (sSeq (sAsg (wTup (wCons (wFld "Table" "own_lines" (wVar 0)) (wCons (wLst (wRgF (wRg1 (w1 dLen (wFld "Table" "own_lines" (wVar 0)))))) wNil))) (gTupP (gsCons (gNm 3) (gsCons (gNm 4) gsNil)) 2)) (sSeq (sSet 1 (wLst (wComp (wItems (wVar 4)) (gNm 7) (W.ret true) (wLst (wComp (wItems (wVar 4)) (gNm 8) (tAndP (wTest (xBin fNe (wVar 8) (wVar 7))) (wTest (xBin fEq (xBin fIdx (xBin fIdx (wVar 3) (wVar 7)) (wVar 8)) (xBin fIdx (xBin fIdx (wVar 3) (wVar 8)) (wVar 7))))) (wVar 8) [8])) [7]))) (sSeq (sSetOwn 2 (wComp (wItems (wVar 4)) (gNm 7) (W.ret true) (wCell 10 (wComp (wItems (wVar 4)) (gNm 8) (tAndP (wTest (xBin fEq (xBin fIdx (xBin fIdx (wVar 3) (wVar 7)) (wVar 8)) (W.ret (.int 1)))) (wTest (xBin fEq (xBin fIdx (xBin fIdx (wVar 3) (wVar 8)) (wVar 7)) (W.ret (.int 0))))) (wVar 8) [8])) [7])) (sSeq (sFor (wItems (wCall F_halves_of (wCons (wVar 1) wNil))) (gTupP (gsCons (gNm 5) (gsCons (gNm 6) gsNil)) 2) (sDrop (wAppendC 10 (wIxOwn 2 (wVar 5)) (wVar 6)))) (sRet (wCMeth "Tournament" F_Tournament_of (wCons (w1 dTuple (wLst (wComp (wItems (wFrz 2)) (gNm 9) (W.ret true) (w1 dTuple (wLst (wSort false (wCelB 10 (wVar 9))))) [9]))) wNil)))))))))
def N_require_index : List Str := ["value", "size"]
def w_require_index : WS := (sIf (tNotP (wTest (wCall F_is_from (wCons (wVar 0) (wCons (W.ret (.int 0)) (wCons (wBin dSub (wVar 1) (W.ret (.int 1))) wNil)))))) (sRaiseV "InvalidNumber" "value" (wVar 0)) sNil)
def N_Tournament_beats : List Str := ["self", "one", "other"]
def w_Tournament_beats : WS := (sSeq (sDrop (wCall F_require_index (wCons (wVar 1) (wCons (w1 dLen (wFld "Tournament" "own_beaten" (wVar 0))) wNil)))) (sSeq (sDrop (wCall F_require_index (wCons (wVar 2) (wCons (w1 dLen (wFld "Tournament" "own_beaten" (wVar 0))) wNil)))) (sRet (xBin fIn (wVar 2) (xBin fIdx (wFld "Tournament" "own_beaten" (wVar 0)) (wVar 1))))))
def N_L_halved_right : List Str := ["_law_table", "_law_cells", "_law_one", "_law_made", "_law_many", "_law_other", "_law_is_sure", "_law_line"]
def w_L_halved_right : WS := (sSeq (sParM2 3 4 (mE (wCall F_halved (wCons (wVar 0) wNil)) (mE (w1 dLen (wVar 1)) mNil))) (sSeq (sIf (tOrP (tNotP (wTest (w1 (dIsC ["Table", "Tournament"] "Tournament") (wVar 3)))) (wTest (xBin fNe (wProp "Tournament" F_Tournament_scores (wVar 3)) (w1 dTuple (wLst (wComp (wItems (wVar 1)) (gNm 7) (W.ret true) (x1 fSum (wVar 7)) [7])))))) (sRet (W.ret (.bl false))) sNil) (sSeq (sFor (wRng1 (wVar 4)) (gNm 2) (sFor (wRng1 (wVar 4)) (gNm 5) (sSeq (sSet 6 (wBin dGt (xBin fIdx (xBin fIdx (wVar 1) (wVar 2)) (wVar 5)) (xBin fIdx (xBin fIdx (wVar 1) (wVar 5)) (wVar 2)))) (sIf (tAndP (wTest (wVar 6)) (tNotP (wTest (wMeth "Tournament" "beats" F_Tournament_beats (wVar 3) (wCons (wVar 2) (wCons (wVar 5) wNil)))))) (sRet (W.ret (.bl false))) sNil)))) (sRet (W.ret (.bl true))))))
def N_Table_eq : List Str := ["self", "other"]
def w_Table_eq : WS := (sRet (wAnd (w1 (dIsC ["Table", "Tournament"] "Table") (wVar 1)) (wAnd (xBin fEq (wFld "Table" "own_cap" (wVar 0)) (wFld "Table" "own_cap" (wVar 1))) (xBin fEq (wFld "Table" "own_lines" (wVar 0)) (wFld "Table" "own_lines" (wVar 1))))))
def N_Tournament_eq : List Str := ["self", "other"]
def w_Tournament_eq : WS := (sRet (wAnd (w1 (dIsC ["Table", "Tournament"] "Tournament") (wVar 1)) (xBin fEq (wFld "Tournament" "own_beaten" (wVar 0)) (wFld "Tournament" "own_beaten" (wVar 1)))))
def N_L_cast : List Str := ["_law_die", "_law_total", "_law_one", "_law_two", "_law_found"]
def w_L_cast : WS := (sSeq (sIf (wTest (wBin dGt (wBoxGet (wVar 0) (W.ret (.int 0))) (W.ret (.int 0)))) (sSeq (sSet 4 (xBin fMod (w1 dInt (wBoxGet (wVar 0) (W.ret (.int 0)))) (wVar 1))) (sSeq (sBoxSet 0 0 (xBin fDiv (wBoxGet (wVar 0) (W.ret (.int 0))) (wVar 1))) (sRet (wVar 4)))) sNil) (sSeq (sBoxSet 0 2 (xBin fAdd (wBoxGet (wVar 0) (W.ret (.int 2))) (W.ret (.int 1)))) (sSeq (sSet 2 (xBin fMod (w1 dInt (xBin fAdd (wBoxGet (wVar 0) (W.ret (.int 1))) (xBin fMul (W.ret (.int 715225739)) (wBoxGet (wVar 0) (W.ret (.int 2)))))) (W.ret (.int 2305843009213693867)))) (sSeq (sSet 3 (xBin fAdd (xBin fMul (xBin fMod (w1 dInt (xBin fMul (wVar 2) (wVar 2))) (W.ret (.int 1152921504606846697))) (wVar 2)) (xBin fMul (W.ret (.int 6991)) (wBoxGet (wVar 0) (W.ret (.int 2)))))) (sRet (xBin fMod (w1 dInt (xBin fDiv (xBin fMod (w1 dInt (xBin fAdd (wVar 3) (wBoxGet (wVar 0) (W.ret (.int 1))))) (W.ret (.int 8796093022093))) (W.ret (.int 64)))) (wVar 1)))))))
def N_L_any_wins : List Str := ["_law_die", "_law_many", "_law_beaten", "_law_one", "_law_other", "_law_player", "_law_row", "*"]
def w_L_any_wins : WS := (sSeq (sSetOwn 2 (wComp (wRng1 (wVar 1)) (gNm 5) (W.ret true) (wCell 7 (wSz wNil)) [5])) (sSeq (sFor (wRng1 (wVar 1)) (gNm 3) (sFor (wRng2 (xBin fAdd (wVar 3) (W.ret (.int 1))) (wVar 1)) (gNm 4) (sIf (wTest (xBin fEq (wCall F_L_cast (wCons (wVar 0) (wCons (W.ret (.int 2)) wNil))) (W.ret (.int 0)))) (sDrop (wAppendC 7 (wIxOwn 2 (wVar 3)) (wVar 4))) (sDrop (wAppendC 7 (wIxOwn 2 (wVar 4)) (wVar 3)))))) (sRet (wLst (wComp (wItems (wFrz 2)) (gNm 6) (W.ret true) (wLst (wSort false (wCelB 7 (wVar 6)))) [6])))))
def N_L_played : List Str := ["_law_beaten", "_law_row"]
def w_L_played : WS := (sRet (wCMeth "Tournament" F_Tournament_of (wCons (w1 dTuple (wLst (wComp (wItems (wVar 0)) (gNm 1) (W.ret true) (w1 dTuple (wVar 1)) [1]))) wNil)))
def N_require_tournament : List Str := ["tournament"]
def w_require_tournament : WS := (sIf (tNotP (wTest (w1 (dIsC ["Table", "Tournament"] "Tournament") (wVar 0)))) (sRaise "InvalidTournament") sNil)
def N_table_of_tournament : List Str := ["tournament", "places", "one", "other"]
def w_table_of_tournament : WS := (sSeq (sDrop (wCall F_require_tournament (wCons (wVar 0) wNil))) (sSeq (sSet 1 (wLst (wRgF (wRg1 (w1 dLen (wFld "Tournament" "own_beaten" (wVar 0))))))) (sSeq (sIf (wTest (wBin dGt (w1 dLen (wVar 1)) (W.ret (.int 12)))) (sRaiseI "TooMany" "limit" (W.ret (.int 12))) sNil) (sRet (wCMeth "Table" F_Table_of (wCons (W.ret (.int 1)) (wCons (w1 dTuple (wLst (wComp (wItems (wFld "Tournament" "own_beaten" (wVar 0))) (gNm 2) (W.ret true) (w1 dTuple (wLst (wComp (wItems (wVar 1)) (gNm 3) (W.ret true) (w1 dInt (xBin fIn (wVar 3) (wVar 2))) [3]))) [2]))) wNil)))))))
def N_L_exchanged : List Str := ["_law_die", "_law_cells", "_law_many", "_law_turn", "_law_is_off", "_law_is_first", "_law_one", "_law_other", "_law_first", "_law_last", "_law_line", "_law_column", "_law_number", "*"]
def w_L_exchanged : WS := (sSeq (sSet 2 (w1 dLen (wOwn 1))) (sSeq (sFor (wRng1 (xBin fMul (W.ret (.int 3)) (wVar 2))) (gNm 3) (sSeq (sParM2 6 7 (mE (wCall F_L_cast (wCons (wVar 0) (wCons (wVar 2) wNil))) (mE (wCall F_L_cast (wCons (wVar 0) (wCons (wVar 2) wNil))) mNil))) (sSeq (sParM2 8 9 (mE (wCall F_L_cast (wCons (wVar 0) (wCons (wVar 2) wNil))) (mE (wCall F_L_cast (wCons (wVar 0) (wCons (wVar 2) wNil))) mNil))) (sSeq (sSet 4 (wAnd (xBin fNotIn (wVar 6) (wTup (wCons (wVar 8) (wCons (wVar 9) wNil)))) (xBin fNotIn (wVar 7) (wTup (wCons (wVar 8) (wCons (wVar 9) wNil)))))) (sSeq (sSet 5 (wBin dGt (wIxC 13 (wIxOwn 1 (wVar 6)) (wVar 8)) (wIxC 13 (wIxOwn 1 (wVar 6)) (wVar 9)))) (sIf (tAndP (wTest (wVar 4)) (tAndP (wTest (wVar 5)) (wTest (wBin dGt (wIxC 13 (wIxOwn 1 (wVar 7)) (wVar 9)) (wIxC 13 (wIxOwn 1 (wVar 7)) (wVar 8)))))) (sFor (wItems (wTup (wCons (wTup (wCons (wVar 6) (wCons (wVar 8) (wCons (W.ret (.int 0)) wNil)))) (wCons (wTup (wCons (wVar 6) (wCons (wVar 9) (wCons (W.ret (.int 1)) wNil)))) (wCons (wTup (wCons (wVar 7) (wCons (wVar 9) (wCons (W.ret (.int 0)) wNil)))) (wCons (wTup (wCons (wVar 7) (wCons (wVar 8) (wCons (W.ret (.int 1)) wNil)))) wNil)))))) (gTupP (gsCons (gNm 10) (gsCons (gNm 11) (gsCons (gNm 12) gsNil))) 3) (sSetC 13 (wIxOwn 1 (wVar 10)) (wVar 11) (wVar 12))) sNil)))))) (sRet (wFrzC 1 13))))
def N_L_is_half : List Str := ["_law_cells", "_law_cap", "_law_many", "_law_down", "_law_one", "_law_line", "_law_other"]
def w_L_is_half : WS := (sSeq (sSet 2 (w1 dLen (wVar 0))) (sSeq (sIf (wTest (xBin fNe (wVar 1) (W.ret (.int 1)))) (sRet (W.ret (.bl false))) sNil) (sSeq (sIf (wTest (xBin fNe (w1 dLen (xBin fIdx (wVar 0) (W.ret (.int 0)))) (wVar 2))) (sRet (W.ret (.bl false))) sNil) (sSeq (sIf (wTest (xBin fNe (wLst (wComp (wRng1 (wVar 2)) (gNm 4) (wTest (xBin fNe (xBin fIdx (xBin fIdx (wVar 0) (wVar 4)) (wVar 4)) (W.ret (.int 0)))) (wVar 4) [4])) (wLst (wSz wNil)))) (sRet (W.ret (.bl false))) sNil) (sSeq (sSet 3 (wLst (wComp (wRng1 (wVar 2)) (gNm 4) (W.ret true) (x1 fSum (wLst (wComp (wItems (wVar 0)) (gNm 5) (W.ret true) (xBin fIdx (wVar 5) (wVar 4)) [5]))) [4]))) (sRet (xBin fEq (wLst (wComp (wZip (wVar 0) (wVar 3)) (gTupP (gsCons (gNm 5) (gsCons (gNm 6) gsNil)) 2) (W.ret true) (xBin fAdd (x1 fSum (wVar 5)) (wVar 6)) [5, 6])) (xBin fMul (wLst (wSz (wCons (wBin dSub (wVar 2) (W.ret (.int 1))) wNil))) (wVar 2)))))))))
def N_L_lines : List Str := ["_law_beaten", "_law_row", "_law_other"]
def w_L_lines : W (List D) := (wComp (wItems (wVar 0)) (gNm 1) (W.ret true) (wLst (wComp (wRng1 (w1 dLen (wVar 0))) (gNm 2) (W.ret true) (w1 dInt (xBin fIn (wVar 2) (wVar 1))) [2])) [1])
def N_L_linesC : List Str := ["_law_beaten", "_law_row", "_law_other", "*"]
def w_L_linesC : W (List D) := (wComp (wItems (wVar 0)) (gNm 1) (W.ret true) (wCell 3 (wComp (wRng1 (w1 dLen (wVar 0))) (gNm 2) (W.ret true) (w1 dInt (xBin fIn (wVar 2) (wVar 1))) [2])) [1])
def N_L_pick : List Str := ["_law_die", "_law_items"]
def w_L_pick : WS := (sRet (xBin fIdx (wVar 1) (wCall F_L_cast (wCons (wVar 0) (wCons (w1 dLen (wVar 1)) wNil)))))
def N_L_near_cells : List Str := ["_law_die", "_law_cells", "_law_found", "_law_one", "_law_other", "_law_line", "*"]
def w_L_near_cells : WS := (sSeq (sSetOwn 2 (wComp (wItems (wVar 1)) (gNm 5) (W.ret true) (wCell 6 (w1F dItems (wVar 5))) [5])) (sSeq (sParM2 3 4 (mE (wCall F_L_cast (wCons (wVar 0) (wCons (w1 dLen (wVar 1)) wNil))) (mE (wCall F_L_cast (wCons (wVar 0) (wCons (w1 dLen (wVar 1)) wNil))) mNil))) (sSeq (sSetC 6 (wIxOwn 2 (wVar 3)) (wVar 4) (wBin dSub (W.ret (.int 1)) (wIxC 6 (wIxOwn 2 (wVar 3)) (wVar 4)))) (sSeq (sIf (wTest (xBin fEq (w1 dLen (wVar 1)) (W.ret (.int 1)))) (sRet (wFrzC 2 6)) sNil) (sRet (wCall F_L_pick (wCons (wVar 0) (wCons (wLst (wSz (wCons (wFrzC 2 6) (wCons (wLst (wComp (wItems (wVar 1)) (gNm 5) (W.ret true) (wSl (wVar 5) (W.ret none) (wPart (wNeg (W.ret (.int 1))))) [5])) (wCons (wSl (wVar 1) (wPart (W.ret (.int 1))) (W.ret none)) wNil))))) wNil))))))))
def N_L_odd_one : List Str := ["_law_die", "_law_some"]
def w_L_odd_one : WS := (sSeq (sSet 1 (wLst (wSz (wCons (W.ret .non) (wCons (W.ret (.int 0)) (wCons (W.ret (.int 1)) (wCons (W.ret (.int 7)) (wCons (wNeg (W.ret (.int 1))) (wCons (W.ret (.bl true)) (wCons (W.ret (.bl false)) (wCons (W.ret (.str "")) (wCons (W.ret (.str "a")) (wCons (W.ret (.str "made")) (wCons (W.ret (.str "bar")) (wCons (wTup wNil) (wCons (wTup (wCons (W.ret (.int 0)) wNil)) (wCons (wTup (wCons (W.ret (.int 1)) (wCons (W.ret (.int 0)) wNil))) (wCons (wLst (wSz (wCons (W.ret (.int 0)) wNil))) (wCons (W.ret (.dic [])) (wCons (wTup (wCons (W.ret (.int 1)) (wCons (W.ret (.int 1)) (wCons (W.ret (.int 1)) wNil)))) (wCons (wTup (wCons (wTup (wCons (W.ret (.int 1)) wNil)) (wCons (wTup (wCons (W.ret (.int 2)) wNil)) (wCons (wTup (wCons (W.ret (.int 0)) wNil)) wNil)))) wNil))))))))))))))))))))) (sRet (wCall F_L_pick (wCons (wVar 0) (wCons (xBin fAdd (wVar 1) (wLst (wSz (wCons (xBin fPow (W.ret (.int 10)) (W.ret (.int 29))) (wCons (wTup (wCons (W.ret .non) wNil)) (wCons (wTup (wCons (W.ret (.str "bar")) (wCons (wTup (wCons (W.ret (.int 0)) wNil)) wNil))) (wCons (wTup (wCons (W.ret (.str "made")) (wCons (wTup wNil) wNil))) (wCons (wTup (wCons (W.ret (.bl true)) wNil)) (wCons (wTup (wCons (wNeg (W.ret (.int 1))) (wCons (W.ret (.int 1)) wNil))) (wCons (W.ret (.str "web")) (wCons (wTup (wCons (W.ret (.int 0)) (wCons (W.ret (.int 0)) wNil))) wNil))))))))))) wNil)))))
def N_L_right : List Str := ["_law_die", "_law_beaten", "_law_made", "_law_table", "_law_cells", "_law_other", "_law_value", "_law_due", "_law_near", "_law_cap", "_law_odd", "_law_line"]
def w_L_right : WS := (sSeq (sSet 1 (wCall F_L_any_wins (wCons (wVar 0) (wCons (xBin fAdd (W.ret (.int 1)) (wCall F_L_cast (wCons (wVar 0) (wCons (W.ret (.int 8)) wNil)))) wNil)))) (sSeq (sSet 2 (wCall F_L_played (wCons (wVar 1) wNil))) (sSeq (sSet 3 (wCall F_table_of_tournament (wCons (wVar 2) wNil))) (sSeq (sIf (wTest (wNeO "Table" "Table" F_Table_eq (wVar 3) (wCMeth "Table" F_Table_of (wCons (W.ret (.int 1)) (wCons (w1 dTuple (wLst (wComp (wItems (wLst (wCallF F_L_lines (wCons (wVar 1) wNil)))) (gNm 11) (W.ret true) (w1 dTuple (wVar 11)) [11]))) wNil))))) (sRet (W.ret (.bl false))) sNil) (sSeq (sIf (wTest (wNeO "Tournament" "Tournament" F_Tournament_eq (wCall F_halved (wCons (wVar 3) wNil)) (wVar 2))) (sRet (W.ret (.bl false))) sNil) (sSeq (sSet 4 (wCallM F_L_exchanged (wVar 0) F_L_linesC (wCons (wVar 1) wNil))) (sSeq (sSet 5 (wCMeth "Table" F_Table_of (wCons (W.ret (.int 1)) (wCons (w1 dTuple (wLst (wComp (wItems (wVar 4)) (gNm 11) (W.ret true) (w1 dTuple (wVar 11)) [11]))) wNil)))) (sSeq (sIf (tOrP (wTest (wBin dIsNot (wCall F_is_half_table (wCons (wVar 5) wNil)) (W.ret (.bl true)))) (tNotP (wTest (wCall F_L_halved_right (wCons (wVar 5) (wCons (wVar 4) wNil)))))) (sRet (W.ret (.bl false))) sNil) (sSeq (sParM3 8 9 10 (mE (wCall F_L_near_cells (wCons (wVar 0) (wCons (wVar 4) wNil))) (mE (wCall F_L_pick (wCons (wVar 0) (wCons (wLst (wSz (wCons (W.ret (.int 1)) (wCons (W.ret (.int 1)) (wCons (W.ret (.int 2)) wNil))))) wNil))) (mE (wCall F_L_odd_one (wCons (wVar 0) wNil)) mNil)))) (sSeq (sSet 6 (wCMeth "Table" F_Table_of (wCons (wVar 9) (wCons (w1 dTuple (wLst (wComp (wItems (wVar 8)) (gNm 11) (W.ret true) (w1 dTuple (wVar 11)) [11]))) wNil)))) (sSeq (sSet 7 (wCall F_L_is_half (wCons (wVar 8) (wCons (wVar 9) wNil)))) (sSeq (sIf (tOrP (wTest (xBin fNe (wCall F_is_half_table (wCons (wVar 6) wNil)) (wVar 7))) (wTest (xBin fNe (wBin dIsNot (wOutQ cls_L_met hs_L_met (wCall F_halved (wCons (wVar 6) wNil))) (W.ret .non)) (wVar 7)))) (sRet (W.ret (.bl false))) sNil) (sRet (wAnd (wBin dIs (wCall F_is_half_table (wCons (wVar 10) wNil)) (W.ret (.bl false))) (wBin dIs (wCall F_is_half_table (wCons (wVar 2) wNil)) (W.ret (.bl false)))))))))))))))))
def N_law : List Str := ["_law_script", "_law_at", "_law_cells", "_law_twice", "_law_die", "_law_line"]
def w_law : WS := (sSeq (sFor (wRng1 (wN dMax2 (wCons (W.ret (.int 1)) (wCons (wN dMin2 (wCons (W.ret (.int 4)) (wCons (w1 dLen (wVar 0)) wNil))) wNil)))) (gNm 1) (sSeq (sSet 4 (wCall F_L_numbers (wCons (wVar 0) (wCons (wVar 1) wNil)))) (sIf (tOrP (tNotP (wTest (wCall F_L_right (wCons (wVar 4) wNil)))) (tNotP (wTest (wCall F_L_right (wCons (wVar 4) wNil))))) (sRet (W.ret (.bl false))) sNil))) (sSeq (sSet 2 (wLst (wSz (wCons (wLst (wSz (wCons (W.ret (.int 0)) (wCons (W.ret (.int 1)) (wCons (W.ret (.int 0)) (wCons (W.ret (.int 1)) wNil)))))) (wCons (wLst (wSz (wCons (W.ret (.int 1)) (wCons (W.ret (.int 0)) (wCons (W.ret (.int 1)) (wCons (W.ret (.int 0)) wNil)))))) (wCons (wLst (wSz (wCons (W.ret (.int 0)) (wCons (W.ret (.int 0)) (wCons (W.ret (.int 0)) (wCons (W.ret (.int 1)) wNil)))))) (wCons (wLst (wSz (wCons (W.ret (.int 0)) (wCons (W.ret (.int 0)) (wCons (W.ret (.int 1)) (wCons (W.ret (.int 0)) wNil)))))) wNil))))))) (sSeq (sSet 3 (wCMeth "Table" F_Table_of (wCons (W.ret (.int 1)) (wCons (w1 dTuple (wLst (wComp (wItems (wVar 2)) (gNm 5) (W.ret true) (w1 dTuple (wVar 5)) [5]))) wNil)))) (sSeq (sIf (tNotP (wTest (wCall F_is_half_table (wCons (wVar 3) wNil)))) (sRet (W.ret (.bl false))) sNil) (sSeq (sIf (tNotP (wTest (wCall F_L_halved_right (wCons (wVar 3) (wCons (wVar 2) wNil))))) (sRet (W.ret (.bl false))) sNil) (sRet (xBin fEq (wProp "Tournament" F_Tournament_scores (wCall F_halved (wCons (wVar 3) wNil))) (wTup (wCons (W.ret (.int 2)) (wCons (W.ret (.int 2)) (wCons (W.ret (.int 1)) (wCons (W.ret (.int 1)) wNil))))))))))))
end Pr

namespace Pr
open PySem PySem.Spec PyProof.Rows L2 LamX Pd
theorem pure_is_integer (ds : List D) (Q : D → Prop) (Ex : Xc → Prop) (h : F_is_integer ds Q Ex) : w_is_integer (dEnds Q Ex) (startE N_is_integer ds) := Ta.pure_is_integer ds Q Ex h
theorem len_is_integer (ds : List D) (Q : D → Prop) (Ex : Xc → Prop) (h : F_is_integer ds Q Ex) : ds.length = 1 := Ta.len_is_integer ds Q Ex h
theorem pure_is_from (ds : List D) (Q : D → Prop) (Ex : Xc → Prop) (h : F_is_from ds Q Ex) : w_is_from (dEnds Q Ex) (startE N_is_from ds) := Ta.pure_is_from ds Q Ex h
theorem len_is_from (ds : List D) (Q : D → Prop) (Ex : Xc → Prop) (h : F_is_from ds Q Ex) : ds.length = 3 := Ta.len_is_from ds Q Ex h
theorem pure_is_cap (ds : List D) (Q : D → Prop) (Ex : Xc → Prop) (h : F_is_cap ds Q Ex) : w_is_cap (dEnds Q Ex) (startE N_is_cap ds) := Ta.pure_is_cap ds Q Ex h
theorem len_is_cap (ds : List D) (Q : D → Prop) (Ex : Xc → Prop) (h : F_is_cap ds Q Ex) : ds.length = 1 := Ta.len_is_cap ds Q Ex h
theorem pure_is_line (ds : List D) (Q : D → Prop) (Ex : Xc → Prop) (h : F_is_line ds Q Ex) : w_is_line (dEnds Q Ex) (startE N_is_line ds) := Ta.pure_is_line ds Q Ex h
theorem len_is_line (ds : List D) (Q : D → Prop) (Ex : Xc → Prop) (h : F_is_line ds Q Ex) : ds.length = 2 := Ta.len_is_line ds Q Ex h
theorem pure_are_lines (ds : List D) (Q : D → Prop) (Ex : Xc → Prop) (h : F_are_lines ds Q Ex) : w_are_lines (dEnds Q Ex) (startE N_are_lines ds) := Ta.pure_are_lines ds Q Ex h
theorem len_are_lines (ds : List D) (Q : D → Prop) (Ex : Xc → Prop) (h : F_are_lines ds Q Ex) : ds.length = 2 := Ta.len_are_lines ds Q Ex h
theorem pure_Table_init (p : Addr) (ds : List D) (P : List (Str × D) → Prop) (Ex : Xc → Prop) (h : F_Table_init ds P Ex) : w_Table_init (iEnds p "Table" P Ex) (startI N_Table_init p "Table" ds) := Ta.pure_Table_init p ds P Ex h
theorem pure_Table_of (ds : List D) (Q : D → Prop) (Ex : Xc → Prop) (h : F_Table_of ds Q Ex) : w_Table_of (dEnds Q Ex) (startE N_Table_of ds) := Ta.pure_Table_of ds Q Ex h
theorem len_Table_of (ds : List D) (Q : D → Prop) (Ex : Xc → Prop) (h : F_Table_of ds Q Ex) : ds.length = 3 := Ta.len_Table_of ds Q Ex h
theorem pure_Table_line_sums (ds : List D) (Q : D → Prop) (Ex : Xc → Prop) (h : F_Table_line_sums ds Q Ex) : w_Table_line_sums (dEnds Q Ex) (startE N_Table_line_sums ds) := Ta.pure_Table_line_sums ds Q Ex h
theorem len_Table_line_sums (ds : List D) (Q : D → Prop) (Ex : Xc → Prop) (h : F_Table_line_sums ds Q Ex) : ds.length = 1 := Ta.len_Table_line_sums ds Q Ex h
theorem pure_Table_column_sums (ds : List D) (Q : D → Prop) (Ex : Xc → Prop) (h : F_Table_column_sums ds Q Ex) : w_Table_column_sums (dEnds Q Ex) (startE N_Table_column_sums ds) := Ta.pure_Table_column_sums ds Q Ex h
theorem len_Table_column_sums (ds : List D) (Q : D → Prop) (Ex : Xc → Prop) (h : F_Table_column_sums ds Q Ex) : ds.length = 1 := Ta.len_Table_column_sums ds Q Ex h
theorem pure_is_ascending (ds : List D) (Q : D → Prop) (Ex : Xc → Prop) (h : F_is_ascending ds Q Ex) : w_is_ascending (dEnds Q Ex) (startE N_is_ascending ds) := Tt.pure_is_ascending ds Q Ex h
theorem len_is_ascending (ds : List D) (Q : D → Prop) (Ex : Xc → Prop) (h : F_is_ascending ds Q Ex) : ds.length = 1 := Tt.len_is_ascending ds Q Ex h
theorem pure_are_indices (ds : List D) (Q : D → Prop) (Ex : Xc → Prop) (h : F_are_indices ds Q Ex) : w_are_indices (dEnds Q Ex) (startE N_are_indices ds) := Tt.pure_are_indices ds Q Ex h
theorem len_are_indices (ds : List D) (Q : D → Prop) (Ex : Xc → Prop) (h : F_are_indices ds Q Ex) : ds.length = 2 := Tt.len_are_indices ds Q Ex h
theorem pure_are_results (ds : List D) (Q : D → Prop) (Ex : Xc → Prop) (h : F_are_results ds Q Ex) : w_are_results (dEnds Q Ex) (startE N_are_results ds) := Tt.pure_are_results ds Q Ex h
theorem len_are_results (ds : List D) (Q : D → Prop) (Ex : Xc → Prop) (h : F_are_results ds Q Ex) : ds.length = 1 := Tt.len_are_results ds Q Ex h
theorem pure_Tournament_init (p : Addr) (ds : List D) (P : List (Str × D) → Prop) (Ex : Xc → Prop) (h : F_Tournament_init ds P Ex) : w_Tournament_init (iEnds p "Tournament" P Ex) (startI N_Tournament_init p "Tournament" ds) := Tt.pure_Tournament_init p ds P Ex h
theorem pure_Tournament_of (ds : List D) (Q : D → Prop) (Ex : Xc → Prop) (h : F_Tournament_of ds Q Ex) : w_Tournament_of (dEnds Q Ex) (startE N_Tournament_of ds) := Tt.pure_Tournament_of ds Q Ex h
theorem len_Tournament_of (ds : List D) (Q : D → Prop) (Ex : Xc → Prop) (h : F_Tournament_of ds Q Ex) : ds.length = 2 := Tt.len_Tournament_of ds Q Ex h
theorem pure_Tournament_scores (ds : List D) (Q : D → Prop) (Ex : Xc → Prop) (h : F_Tournament_scores ds Q Ex) : w_Tournament_scores (dEnds Q Ex) (startE N_Tournament_scores ds) := Tt.pure_Tournament_scores ds Q Ex h
theorem len_Tournament_scores (ds : List D) (Q : D → Prop) (Ex : Xc → Prop) (h : F_Tournament_scores ds Q Ex) : ds.length = 1 := Tt.len_Tournament_scores ds Q Ex h
theorem pure_require_index (ds : List D) (Q : D → Prop) (Ex : Xc → Prop) (h : F_require_index ds Q Ex) : w_require_index (dEnds Q Ex) (startE N_require_index ds) := Tt.pure_require_index ds Q Ex h
theorem len_require_index (ds : List D) (Q : D → Prop) (Ex : Xc → Prop) (h : F_require_index ds Q Ex) : ds.length = 2 := Tt.len_require_index ds Q Ex h
theorem pure_Tournament_beats (ds : List D) (Q : D → Prop) (Ex : Xc → Prop) (h : F_Tournament_beats ds Q Ex) : w_Tournament_beats (dEnds Q Ex) (startE N_Tournament_beats ds) := Tt.pure_Tournament_beats ds Q Ex h
theorem len_Tournament_beats (ds : List D) (Q : D → Prop) (Ex : Xc → Prop) (h : F_Tournament_beats ds Q Ex) : ds.length = 3 := Tt.len_Tournament_beats ds Q Ex h
theorem pure_L_numbers (ds : List D) (Q : D → Prop) (Ex : Xc → Prop) (h : F_L_numbers ds Q Ex) : w_L_numbers (dEnds Q Ex) (startE N_L_numbers ds) := Ts.pure_L_numbers ds Q Ex h
theorem len_L_numbers (ds : List D) (Q : D → Prop) (Ex : Xc → Prop) (h : F_L_numbers ds Q Ex) : ds.length = 2 := Ts.len_L_numbers ds Q Ex h
theorem pure_L_cast (ds : List D) (Q : D → Prop) (Ex : Xc → Prop) (h : F_L_cast ds Q Ex) : w_L_cast (dEnds Q Ex) (startE N_L_cast ds) := Ts.pure_L_cast ds Q Ex h
theorem len_L_cast (ds : List D) (Q : D → Prop) (Ex : Xc → Prop) (h : F_L_cast ds Q Ex) : ds.length = 2 := Ts.len_L_cast ds Q Ex h
theorem pure_L_any_wins (ds : List D) (Q : D → Prop) (Ex : Xc → Prop) (h : F_L_any_wins ds Q Ex) : w_L_any_wins (dEnds Q Ex) (startE N_L_any_wins ds) := Tp.pure_L_any_wins ds Q Ex h
theorem len_L_any_wins (ds : List D) (Q : D → Prop) (Ex : Xc → Prop) (h : F_L_any_wins ds Q Ex) : ds.length = 2 := Tp.len_L_any_wins ds Q Ex h
theorem pure_L_pick (ds : List D) (Q : D → Prop) (Ex : Xc → Prop) (h : F_L_pick ds Q Ex) : w_L_pick (dEnds Q Ex) (startE N_L_pick ds) := Tp.pure_L_pick ds Q Ex h
theorem len_L_pick (ds : List D) (Q : D → Prop) (Ex : Xc → Prop) (h : F_L_pick ds Q Ex) : ds.length = 2 := Tp.len_L_pick ds Q Ex h
theorem pure_L_odd_one (ds : List D) (Q : D → Prop) (Ex : Xc → Prop) (h : F_L_odd_one ds Q Ex) : w_L_odd_one (dEnds Q Ex) (startE N_L_odd_one ds) := Tp.pure_L_odd_one ds Q Ex h
theorem len_L_odd_one (ds : List D) (Q : D → Prop) (Ex : Xc → Prop) (h : F_L_odd_one ds Q Ex) : ds.length = 1 := Tp.len_L_odd_one ds Q Ex h
end Pr

namespace Pr
open PySem PySem.Spec PyProof.Rows L2 LamX Pd
open Ta (Tb lnD tbD wd lsum csum cl colI)
open Tt (Nl Tl Ll rws rwD trD Gd)
open Qt (To)
open Eu (S bi Hf opn won more Og Ev)
theorem cel_len (n : Nat) (b : Nat → Nat → Bool) : (cel n b).length = n := by
  unfold cel
  rw [List.length_map, List.length_range]
theorem cel_row {n : Nat} {b : Nat → Nat → Bool} {i : Nat} (h : i < n) : (cel n b).getD i [] = (List.range n).map fun j => if b i j then 1 else 0 := by
  unfold cel
  rw [List.getD_eq_getElem?_getD, List.getElem?_map, List.getElem?_range h]
  rfl
theorem cel_cl {n : Nat} {b : Nat → Nat → Bool} {i j : Nat} (h : i < n) (hj : j < n) : cl (cel n b) i j = if b i j then 1 else 0 := by
  unfold cl
  rw [cel_row h, List.getD_eq_getElem?_getD, List.getElem?_map, List.getElem?_range hj]
  rfl
theorem cel_wd {n : Nat} {b : Nat → Nat → Bool} (h : 1 ≤ n) : wd (cel n b) = n := by
  unfold wd
  have : (cel n b).headD [] = (cel n b).getD 0 [] := by
    cases cel n b <;> rfl
  rw [this, cel_row h, List.length_map, List.length_range]
theorem sum_bi {n : Nat} (f : Nat → Bool) : ((List.range n).map fun j => if f j then (1 : Int) else 0).sum = ((S n fun j => bi (f j) : Nat) : Int) := by
  induction n with
  | zero => rfl
  | succ n ih =>
    rw [Eu.S_succ, List.range_succ, List.map_append, List.sum_append, ih]
    cases h : f n <;> simp [Eu.bi, h]
theorem cel_lsum {n : Nat} {b : Nat → Nat → Bool} {i : Nat} (h : i < n) : (lsum (cel n b)).getD i 0 = ((S n fun j => bi (b i j) : Nat) : Int) := by
  unfold lsum
  rw [List.getD_eq_getElem?_getD, List.getElem?_map]
  have : (cel n b)[i]? = some ((List.range n).map fun j => if b i j then 1 else 0) := by
    unfold cel
    rw [List.getElem?_map, List.getElem?_range h]
    rfl
  rw [this]
  exact sum_bi fun j => b i j
theorem cel_col {n : Nat} {b : Nat → Nat → Bool} {i : Nat} (h : i < n) : (colI (cel n b) i).sum = ((S n fun j => bi (b j i) : Nat) : Int) := by
  unfold colI cel
  rw [List.map_map]
  rw [← sum_bi fun j => b j i]
  congr 1
  refine List.map_congr_left fun j _ => ?_
  show ((List.range n).map fun x => if b j x then (1 : Int) else 0).getD i 0 = _
  rw [List.getD_eq_getElem?_getD, List.getElem?_map, List.getElem?_range h]
  rfl
theorem cel_tb {n : Nat} {b : Nat → Nat → Bool} (n1 : 1 ≤ n) (n12 : n ≤ 12) : Tb 1 (cel n b) := by
  refine ⟨by decide, by decide, by rw [cel_len]; exact n1, by rw [cel_len]; exact n12, ⟨n, n1, n12, fun r hr => ?_⟩, fun r hr x hx => ?_⟩
  · obtain ⟨i, _, rfl⟩ := List.mem_map.mp hr
    rw [List.length_map, List.length_range]
  · obtain ⟨i, _, rfl⟩ := List.mem_map.mp hr
    obtain ⟨j, _, rfl⟩ := List.mem_map.mp hx
    split <;> omega
theorem half_cel {n : Nat} {b : Nat → Nat → Bool} (n1 : 1 ≤ n) : halfB 1 (cel n b) = true ↔ Hf n b := by
  unfold halfB dgB smB
  rw [cel_wd n1, cel_len, decide_eq_true rfl, decide_eq_true rfl, Bool.true_and, Bool.true_and, Bool.and_eq_true, List.all_eq_true, List.all_eq_true]
  constructor
  · rintro ⟨h1, h2⟩
    refine ⟨fun i hi => ?_, fun i hi => ?_⟩
    · have := of_decide_eq_true (h1 i (List.mem_range.mpr hi))
      rw [cel_cl hi hi] at this
      cases e : b i i with
      | true => rw [e] at this; cases this
      | false => rfl
    · have := of_decide_eq_true (h2 i (List.mem_range.mpr hi))
      rw [cel_lsum hi, cel_col hi] at this
      omega
  · intro h
    refine ⟨fun i hi => ?_, fun i hi => ?_⟩
    · have hi := List.mem_range.mp hi
      rw [cel_cl hi hi, h.dg i hi]
      decide
    · have hi := List.mem_range.mp hi
      rw [cel_lsum hi, cel_col hi]
      have := h.sm i hi
      exact decide_eq_true (by omega)
theorem half_of {c : Int} {rs : List (List Int)} (t : Tb c rs) (h : halfB c rs = true) : ∃ n b, c = 1 ∧ rs = cel n b ∧ Hf n b ∧ 1 ≤ n ∧ n ≤ 12 := by
  have h0 := h
  unfold halfB at h
  rw [Bool.and_eq_true, Bool.and_eq_true] at h
  have c1 : c = 1 := of_decide_eq_true h.1
  have hw : wd rs = rs.length := of_decide_eq_true h.2.1
  subst c1
  have e : rs = cel rs.length fun i j => decide (cl rs i j = 1) := by
    obtain ⟨m, m1, m2, hm⟩ := t.w
    have em : m = rs.length := by
      rw [← hw]
      unfold wd
      cases rs with
      | nil => have := t.l1; simp at this
      | cons r rs => exact (hm r List.mem_cons_self).symm
    refine List.ext_getElem? fun i => ?_
    by_cases hi : i < rs.length
    · rw [List.getElem?_eq_getElem hi]
      unfold cel
      rw [List.getElem?_map, List.getElem?_range hi]
      show some rs[i] = some _
      congr 1
      have hr : rs[i] ∈ rs := List.getElem_mem hi
      refine List.ext_getElem? fun j => ?_
      by_cases hj : j < rs.length
      · rw [List.getElem?_map, List.getElem?_range hj, List.getElem?_eq_getElem (by rw [hm _ hr, em]; exact hj)]
        show some _ = some _
        congr 1
        have hx : rs[i][j]'(by rw [hm _ hr, em]; exact hj) ∈ rs[i] := List.getElem_mem _
        have := t.ce _ hr _ hx
        have ec : cl rs i j = rs[i][j]'(by rw [hm _ hr, em]; exact hj) := by
          unfold cl
          rw [List.getD_eq_getElem?_getD, List.getD_eq_getElem?_getD, List.getElem?_eq_getElem hi]
          show ((rs[i])[j]?).getD 0 = _
          rw [List.getElem?_eq_getElem (by rw [hm _ hr, em]; exact hj)]
          rfl
        show rs[i][j]'(by rw [hm _ hr, em]; exact hj) = if decide (cl rs i j = 1) = true then 1 else 0
        rw [ec]
        by_cases z : rs[i][j]'(by rw [hm _ hr, em]; exact hj) = 1
        · rw [if_pos (decide_eq_true z)]; exact z
        · rw [if_neg (by simpa using z)]; omega
      · rw [List.getElem?_eq_none (by rw [hm _ hr, em]; omega), List.getElem?_eq_none (by rw [List.length_map, List.length_range]; omega)]
    · rw [List.getElem?_eq_none (by omega), List.getElem?_eq_none (by rw [cel_len]; omega)]
  refine ⟨rs.length, _, rfl, e, ?_, t.l1, t.l12⟩
  rw [e] at h0
  exact (half_cel t.l1).mp h0
theorem S_pt {n u c : Nat} (h : u < n) : S n (fun j => if j = u then c else 0) = c := by
  induction n with
  | zero => omega
  | succ n ih =>
    rw [Eu.S_succ]
    by_cases e : n = u
    · subst e
      rw [Eu.S_zero fun j hj => if_neg (by omega), if_pos rfl, Nat.zero_add]
    · rw [ih (by omega), if_neg e, Nat.add_zero]
theorem S_swap {n u v : Nat} {f g : Nat → Nat} (hu : u < n) (hv : v < n) (ne : u ≠ v) (h : ∀ j, j ≠ u → j ≠ v → g j = f j) (hs : g u + g v = f u + f v) : S n g = S n f := by
  have k : S n (fun j => g j + (if j = u then f u else 0) + (if j = v then f v else 0)) = S n (fun j => f j + (if j = u then g u else 0) + (if j = v then g v else 0)) := by
    refine Eu.S_congr fun j _ => ?_
    by_cases e1 : j = u
    · subst e1
      rw [if_pos rfl, if_pos rfl, if_neg ne, if_neg ne]
      omega
    · by_cases e2 : j = v
      · subst e2
        rw [if_neg e1, if_pos rfl, if_neg e1, if_pos rfl]
        omega
      · rw [if_neg e1, if_neg e2, if_neg e1, if_neg e2, h j e1 e2]
  rw [Eu.S_add, Eu.S_add, Eu.S_add, Eu.S_add, S_pt hu, S_pt hv, S_pt hu, S_pt hv] at k
  omega
def upb (b : Nat → Nat → Bool) (i j : Nat) (z : Bool) : Nat → Nat → Bool := fun x y => if x = i ∧ y = j then z else b x y
def xch (b : Nat → Nat → Bool) (i h f l : Nat) : Nat → Nat → Bool := upb (upb (upb (upb b i f false) i l true) h l false) h f true
theorem hf_xch {n : Nat} {b : Nat → Nat → Bool} (H : Hf n b) {i h f l : Nat} (hi : i < n) (hh : h < n) (hf : f < n) (hl : l < n) (o1 : i ≠ f) (o2 : i ≠ l) (o3 : h ≠ f) (o4 : h ≠ l) (b1 : b i f = true) (b2 : b i l = false) (b3 : b h l = true) (b4 : b h f = false) : Hf n (xch b i h f l) := by
  have fl : f ≠ l := fun z => by
    subst z
    rw [b1] at b2
    cases b2
  have ih : i ≠ h := fun z => by
    subst z
    rw [b1] at b4
    cases b4
  have at_ : ∀ x y, xch b i h f l x y = if x = h ∧ y = f then true else if x = h ∧ y = l then false else if x = i ∧ y = l then true else if x = i ∧ y = f then false else b x y := fun x y => rfl
  have row : ∀ x, S n (fun j => bi (xch b i h f l x j)) = S n (fun j => bi (b x j)) := fun x => by
    by_cases e1 : x = i
    · subst e1
      refine S_swap hf hl fl (fun j h1 h2 => ?_) ?_
      · rw [at_, if_neg fun z => ih z.1, if_neg fun z => ih z.1, if_neg fun z => h2 z.2, if_neg fun z => h1 z.2]
      · rw [at_, at_, if_neg fun z => ih z.1, if_neg fun z => ih z.1, if_neg fun z => fl z.2, if_pos ⟨rfl, rfl⟩, if_neg fun z => ih z.1, if_neg fun z => ih z.1, if_pos ⟨rfl, rfl⟩, b1, b2]
        rfl
    · by_cases e2 : x = h
      · subst e2
        refine S_swap hf hl fl (fun j h1 h2 => ?_) ?_
        · rw [at_, if_neg fun z => h1 z.2, if_neg fun z => h2 z.2, if_neg fun z => e1 z.1, if_neg fun z => e1 z.1]
        · rw [at_, at_, if_pos ⟨rfl, rfl⟩, if_neg fun z => fl z.2.symm, if_pos ⟨rfl, rfl⟩, b3, b4]
          rfl
      · refine Eu.S_congr fun j _ => ?_
        rw [at_, if_neg fun z => e2 z.1, if_neg fun z => e2 z.1, if_neg fun z => e1 z.1, if_neg fun z => e1 z.1]
  have col : ∀ y, S n (fun j => bi (xch b i h f l j y)) = S n (fun j => bi (b j y)) := fun y => by
    by_cases e1 : y = f
    · subst e1
      refine S_swap hi hh ih (fun j h1 h2 => ?_) ?_
      · rw [at_, if_neg fun z => h2 z.1, if_neg fun z => h2 z.1, if_neg fun z => h1 z.1, if_neg fun z => h1 z.1]
      · rw [at_, at_, if_neg fun z => ih z.1, if_neg fun z => ih z.1, if_neg fun z => fl z.2, if_pos ⟨rfl, rfl⟩, if_pos ⟨rfl, rfl⟩, b1, b4]
        rfl
    · by_cases e2 : y = l
      · subst e2
        refine S_swap hi hh ih (fun j h1 h2 => ?_) ?_
        · rw [at_, if_neg fun z => h2 z.1, if_neg fun z => h2 z.1, if_neg fun z => h1 z.1, if_neg fun z => h1 z.1]
        · rw [at_, at_, if_neg fun z => ih z.1, if_neg fun z => ih z.1, if_pos ⟨rfl, rfl⟩, if_neg fun z => e1 z.2, if_pos ⟨rfl, rfl⟩, b2, b3]
          rfl
      · refine Eu.S_congr fun j _ => ?_
        rw [at_, if_neg fun z => e1 z.2, if_neg fun z => e2 z.2, if_neg fun z => e2 z.2, if_neg fun z => e1 z.2]
  refine ⟨fun x hx => ?_, fun x hx => ?_⟩
  · rw [at_, if_neg fun z => o3 (z.1.symm.trans z.2), if_neg fun z => o4 (z.1.symm.trans z.2), if_neg fun z => o2 (z.1.symm.trans z.2), if_neg fun z => o1 (z.1.symm.trans z.2)]
    exact H.dg x hx
  · rw [row, col]
    exact H.sm x hx
theorem hf_tour {n : Nat} {G : Nat → List Nat} (g : Gd n G) : Hf n (bG G) := by
  refine ⟨fun i hi => decide_eq_false fun z => (g.to.lt i (List.mem_range.mpr hi) i z).2 rfl, fun i hi => ?_⟩
  have k : S n (fun j => bi (bG G i j) + bi (bG G j i) + (if j = i then 1 else 0)) = S n (fun _ => 1) := by
    refine Eu.S_congr fun j hj => ?_
    by_cases e : j = i
    · subst e
      have : bG G j j = false := decide_eq_false fun z => (g.to.lt j (List.mem_range.mpr hj) j z).2 rfl
      rw [this, if_pos rfl]
      rfl
    · rw [if_neg e]
      have := g.to.one i (List.mem_range.mpr hi) j (List.mem_range.mpr hj) fun z => e z.symm
      by_cases z : j ∈ G i
      · have e1 : bG G i j = true := decide_eq_true z
        have e2 : bG G j i = false := decide_eq_false (this.mp z)
        rw [e1, e2]; rfl
      · have e1 : bG G i j = false := decide_eq_false z
        have e2 : bG G j i = true := decide_eq_true (Classical.byContradiction fun y => z (this.mpr y))
        rw [e1, e2]; rfl
  rw [Eu.S_add, Eu.S_add, Eu.S_one hi, Eu.S_const] at k
  exact k
theorem out_same {n : Nat} {G G' : Nat → List Nat} (g : Gd n G) (o : Out n (bG G) G') : trD n G' = trD n G := by
  obtain ⟨g', _, st⟩ := o
  have e : ∀ i, i < n → G' i = G i := fun i hi => by
    have sub : ∀ j, j ∈ G' i ↔ j ∈ G i := fun j => by
      constructor
      · intro hj
        obtain ⟨h1, h2⟩ := g'.to.lt i (List.mem_range.mpr hi) j hj
        have hj' := List.mem_range.mp h1
        have on := g.to.one i (List.mem_range.mpr hi) j h1 fun z => h2 z.symm
        refine Classical.byContradiction fun z => ?_
        have : i ∈ G j := Classical.byContradiction fun y => z (on.mpr y)
        have := st j i hj' hi (decide_eq_true this) (decide_eq_false z)
        exact (g'.to.one i (List.mem_range.mpr hi) j h1 fun z => h2 z.symm).mp hj this
      · intro hj
        obtain ⟨h1, h2⟩ := g.to.lt i (List.mem_range.mpr hi) j hj
        have hj' := List.mem_range.mp h1
        have on := g.to.one i (List.mem_range.mpr hi) j h1 fun z => h2 z.symm
        exact st i j hi hj' (decide_eq_true hj) (decide_eq_false (on.mp hj))
    have p : (G' i).Perm (G i) := (List.perm_ext_iff_of_nodup ((g'.asc i hi).imp fun h => by omega) ((g.asc i hi).imp fun h => by omega)).mpr sub
    refine p.eq_of_pairwise (le := (· < ·)) (fun a b _ _ h1 h2 => ?_) (g'.asc i hi) (g.asc i hi)
    omega
  have e2 : rws n G' = rws n G := by
    unfold Tt.rws
    refine List.map_congr_left fun i hi => ?_
    rw [e i (List.mem_range.mp hi)]
  show D.ins "Tournament" [("own_beaten", .tup (rws n G'))] = .ins "Tournament" [("own_beaten", .tup (rws n G))]
  rw [e2]
theorem out_of {n : Nat} {b : Nat → Nat → Bool} (n1 : 1 ≤ n) (n12 : n ≤ 12) (h : Hf n b) {L : List (Nat × Nat)} (ev : Ev n (opn n b) L) : Out n b fun i => Qh.isort Tt.leN (won n b i ++ more L i) := by
  obtain ⟨h1, h2, h3, h4⟩ := Eu.halved h ev
  have pm : ∀ i, (Qh.isort Tt.leN (won n b i ++ more L i)).Perm (won n b i ++ more L i) := fun i => Qh.isort_perm _ _
  refine ⟨⟨n1, by omega, ?_, fun i hi => Tt.isort_asc (h2 i hi)⟩, fun i hi => by rw [(pm i).length_eq]; exact h1 i hi, fun i j hi hj z1 z2 => (pm i).mem_iff.mpr (List.mem_append_left _ ?_)⟩
  · refine ⟨fun i hi => (pm i).nodup_iff.mpr (h2 i (List.mem_range.mp hi)), fun i hi j hj => ?_, fun i hi j hj ne => ?_⟩
    · have := h3 i j (List.mem_range.mp hi) ((pm i).mem_iff.mp hj)
      exact ⟨List.mem_range.mpr this.1, this.2⟩
    · rw [(pm i).mem_iff, (pm j).mem_iff]
      exact h4 i j (List.mem_range.mp hi) (List.mem_range.mp hj) ne
  · unfold Eu.won
    rw [List.mem_filter, z1, z2]
    exact ⟨List.mem_range.mpr hj, rfl⟩
end Pr

namespace Pr
open PySem PySem.Spec PyProof.Rows L2 LamX Pd
open Ta (Tb lnD tbD wd lsum csum cl colI)
open Tt (Nl Tl Ll rws rwD trD Gd)
open Qt (To)
open Eu (S bi Hf opn won more Og Ev)
theorem eqb_int (a b : Int) : eqb (.int a) (.int b) = decide (a = b) := rfl
theorem eqbs_int : ∀ a : List Int, eqbs (a.map D.int) (a.map D.int) = true
  | [] => rfl
  | x :: a => by
    show (eqb (.int x) (.int x) && eqbs (a.map D.int) (a.map D.int)) = true
    rw [eqb_int, eqbs_int a, decide_eq_true rfl]
    rfl
theorem eqbs_self {l : List D} (h : ∀ x ∈ l, eqb x x = true) : eqbs l l = true := by
  induction l with
  | nil => rfl
  | cons x l ih =>
    show (eqb x x && eqbs l l) = true
    rw [h x List.mem_cons_self, ih fun y hy => h y (List.mem_cons_of_mem _ hy)]
    rfl
theorem plain_rows (rs : List (List Int)) : plain 60 (lnD rs) = true := by
  show (rs.map Ti).all (plain 59) = true
  rw [List.all_map]
  refine List.all_eq_true.mpr fun r _ => ?_
  show (r.map D.int).all (plain 58) = true
  rw [List.all_map]
  exact List.all_eq_true.mpr fun x _ => rfl
theorem pure_Table_eq (ds : List D) (Q : D → Prop) (Ex : Xc → Prop) (h : F_Table_eq ds Q Ex) : w_Table_eq (dEnds Q Ex) (startE N_Table_eq ds) := by
  obtain ⟨c, rs, rfl, t, q⟩ := h
  refine br_tt rfl ⟨rfl, _, rfl, rfl, _, rfl, rfl, br_tt ?_ ⟨rfl, _, rfl, rfl, _, rfl, by rw [plain_rows]; rfl, ?_⟩⟩
  · show decide (c = c) = true
    exact decide_eq_true rfl
  · show Q (.bl (eqbs (rs.map Ti) (rs.map Ti)))
    rw [eqbs_self fun x hx => by
      obtain ⟨r, _, rfl⟩ := List.mem_map.mp hx
      exact eqbs_int r]
    exact q
theorem len_Table_eq (ds : List D) (Q : D → Prop) (Ex : Xc → Prop) (h : F_Table_eq ds Q Ex) : ds.length = 2 := by
  obtain ⟨c, rs, rfl, _⟩ := h
  rfl
theorem plain_rwD (n : Nat) (G : Nat → List Nat) : plain 60 (rwD n G) = true := by
  show (rws n G).all (plain 59) = true
  unfold Tt.rws
  rw [List.all_map]
  refine List.all_eq_true.mpr fun i _ => ?_
  show ((Nl (G i)).map D.int).all (plain 58) = true
  rw [List.all_map]
  exact List.all_eq_true.mpr fun x _ => rfl
theorem pure_Tournament_eq (ds : List D) (Q : D → Prop) (Ex : Xc → Prop) (h : F_Tournament_eq ds Q Ex) : w_Tournament_eq (dEnds Q Ex) (startE N_Tournament_eq ds) := by
  obtain ⟨n, G, rfl, g, q⟩ := h
  refine br_tt rfl ⟨rfl, _, rfl, rfl, _, rfl, by rw [plain_rwD]; rfl, ?_⟩
  show Q (.bl (eqbs (rws n G) (rws n G)))
  rw [eqbs_self fun x hx => by
    obtain ⟨i, _, rfl⟩ := List.mem_map.mp hx
    exact eqbs_int _]
  exact q
theorem len_Tournament_eq (ds : List D) (Q : D → Prop) (Ex : Xc → Prop) (h : F_Tournament_eq ds Q Ex) : ds.length = 2 := by
  obtain ⟨n, G, rfl, _⟩ := h
  rfl
theorem pure_require_tournament (ds : List D) (Q : D → Prop) (Ex : Xc → Prop) (h : F_require_tournament ds Q Ex) : w_require_tournament (dEnds Q Ex) (startE N_require_tournament ds) := by
  obtain ⟨fs, rfl, q⟩ := h
  exact br_ff rfl q
theorem len_require_tournament (ds : List D) (Q : D → Prop) (Ex : Xc → Prop) (h : F_require_tournament ds Q Ex) : ds.length = 1 := by
  obtain ⟨fs, rfl, _⟩ := h
  rfl
theorem pure_table_of_tournament (ds : List D) (Q : D → Prop) (Ex : Xc → Prop) (h : F_table_of_tournament ds Q Ex) : w_table_of_tournament (dEnds Q Ex) (startE N_table_of_tournament ds) := by
  obtain ⟨n, G, rfl, g, n12, q⟩ := h
  have el : ((Tt.rws n G).length : Int) = (n : Int) := by rw [Tt.rws_len]
  refine ⟨_, rfl, ?_⟩
  refine ⟨rfl, _, rfl, ⟨show (-1000000 : Int) ≤ 0 by decide, show (0 : Int) ≤ 1000000 by decide, show (-1000000 : Int) ≤ ((Tt.rws n G).length : Int) by omega, show ((Tt.rws n G).length : Int) ≤ 1000000 by omega⟩, ?_⟩
  show br (decide (((Pd.upTo 0 ((Tt.rws n G).length : Int)).length : Int) > 12)) _ _
  have eu : Pd.upTo 0 ((Tt.rws n G).length : Int) = (List.range n).map fun (i : Nat) => D.int (i : Int) := by rw [el, Tt.upTo_nat]
  have lu : ((Pd.upTo 0 ((Tt.rws n G).length : Int)).length : Int) = (n : Int) := by rw [eu, List.length_map, List.length_range]
  rw [lu]
  refine br_if (fun h => absurd h (by omega)) fun h => ?_
  refine ⟨rfl, _, rfl, ?_⟩
  show compW _ _ _ _ _ ((List.range n).map fun i => Tt.Tl (G i)) _ _
  rw [eu]
  refine comp_all (fun s => [some (.d (trD n G)), some (.d (.lst ((List.range n).map fun (i : Nat) => D.int (i : Int)))), s, none]) (fun i => Tt.Tl (G i)) (fun i => Ti ((List.range n).map fun j => if bG G i j then 1 else 0)) (List.range n) none [] (fun _ _ => rfl) (fun i hi K ex k => ?_) fun s => ?_
  · refine comp_all (fun s => [some (.d (trD n G)), some (.d (.lst ((List.range n).map fun (i : Nat) => D.int (i : Int)))), some (.d (Tt.Tl (G i))), s]) (fun (j : Nat) => D.int (j : Int)) (fun j => D.int (if bG G i j then 1 else 0)) (List.range n) none [] (fun _ _ => rfl) (fun j hj K ex k => ?_) fun s => ?_
    · refine ⟨by rw [Tt.plain_nats]; rfl, ?_⟩
      rw [Tt.any_nat]
      exact k
    · have e : D.tup ([] ++ (List.range n).map fun j => D.int (if bG G i j then 1 else 0)) = Ti ((List.range n).map fun j => if bG G i j then 1 else 0) := by
        rw [List.nil_append]
        show _ = D.tup (List.map _ (List.map _ _))
        rw [List.map_map]
        rfl
      show K (D.tup ([] ++ (List.range n).map fun j => D.int (if bG G i j then 1 else 0))) _
      rw [e]
      cases s <;> exact k
  · refine ⟨1, cel n (bG G), ?_, cel_tb g.n1 n12, q⟩
    rw [List.nil_append]
    show _ = [D.cls "Table", D.int 1, D.tup (List.map _ (List.map _ _))]
    rw [List.map_map]
    rfl
theorem len_table_of_tournament (ds : List D) (Q : D → Prop) (Ex : Xc → Prop) (h : F_table_of_tournament ds Q Ex) : ds.length = 1 := by
  obtain ⟨n, G, rfl, _⟩ := h
  rfl
theorem pure_L_played (ds : List D) (Q : D → Prop) (Ex : Xc → Prop) (h : F_L_played ds Q Ex) : w_L_played (dEnds Q Ex) (startE N_L_played ds) := by
  obtain ⟨n, G, rfl, g, q⟩ := h
  refine comp_all (fun s => [some (.d (rsL n G)), s]) (fun i => Ll (G i)) (fun i => Tl (G i)) (List.range n) none [] (fun _ _ => rfl) (fun i hi K ex k => k) fun s => ?_
  exact ⟨n, G, rfl, g, q⟩
theorem len_L_played (ds : List D) (Q : D → Prop) (Ex : Xc → Prop) (h : F_L_played ds Q Ex) : ds.length = 1 := by
  obtain ⟨n, G, rfl, _⟩ := h
  rfl
theorem row_comp {n : Nat} {G : Nat → List Nat} {i : Nat} {Q : List D → PEnv → Prop} (n16 : n ≤ 16) (E : Option Sl → PEnv) (s0 : Option Sl) {e : W D} {u : Nat} (hE : ∀ s x, (wipeE (E s) [u]).set u (some (.d x)) = E (some (.d x)))
    (he : ∀ (j : Nat) (K : D → PEnv → Prop) ex, K (.int (if bG G i j then 1 else 0)) (E (some (.d (.int (j : Int))))) → e (E (some (.d (.int (j : Int))))) K ex) (q : ∀ s, Q (((List.range n).map fun j => if bG G i j then (1 : Int) else 0).map D.int) (E s)) :
    compW (gNm u) (W.ret true) e [u] Q (Pd.upTo 0 (n : Int)) (E s0) [] := by
  rw [Tt.upTo_nat]
  refine comp_all E (fun (j : Nat) => D.int (j : Int)) (fun j => D.int (if bG G i j then 1 else 0)) (List.range n) s0 [] hE (fun j _ K ex k => he j K ex k) fun s => ?_
  have := q s
  rw [List.map_map] at this
  rw [List.nil_append]
  exact this
theorem pure_L_lines (ds : List D) (Q : List D → Prop) (Ex : Xc → Prop) (h : F_L_lines ds Q Ex) : w_L_lines (startE N_L_lines ds) (fun xs _ => Q xs) Ex := by
  obtain ⟨n, G, rfl, n1, n16, q⟩ := h
  have el : (((List.range n).map fun i => Ll (G i)).length : Int) = (n : Int) := by rw [List.length_map, List.length_range]
  show compW _ _ _ _ _ ((List.range n).map fun i => Ll (G i)) [_, _, _] _
  refine comp_all (fun s => [some (.d (rsL n G)), s, none]) (fun i => Ll (G i)) (fun i => Li ((List.range n).map fun j => if bG G i j then 1 else 0)) (List.range n) none [] (fun _ _ => rfl) (fun i hi K ex k => ?_) fun s => ?_
  · show ((((List.range n).map fun i => Ll (G i)).length : Int) ≤ 1000000) ∧ (-1000000 ≤ (((List.range n).map fun i => Ll (G i)).length : Int)) ∧ compW _ _ _ _ _ (Pd.upTo 0 (((List.range n).map fun i => Ll (G i)).length : Int)) _ _
    rw [el]
    refine ⟨by omega, by omega, row_comp (i := i) (G := G) n16 (fun s => [some (.d (rsL n G)), some (.d (Ll (G i))), s]) none (fun _ _ => rfl) (fun j K ex k => ?_) fun s => ?_⟩
    · refine ⟨by rw [Tt.plain_nats]; rfl, ?_⟩
      rw [Tt.any_nat]
      exact k
    · cases s <;> exact k
  · have : (cel n (bG G)).map Li = [] ++ (List.range n).map fun i => Li ((List.range n).map fun j => if bG G i j then 1 else 0) := by
      unfold cel
      rw [List.map_map]
      rfl
    rw [this] at q
    exact q
theorem len_L_lines (ds : List D) (Q : List D → Prop) (Ex : Xc → Prop) (h : F_L_lines ds Q Ex) : ds.length = 1 := by
  obtain ⟨n, G, rfl, _⟩ := h
  rfl
theorem pure_L_linesC (ds : List D) (Q : List (List D) → Prop) (Ex : Xc → Prop) (h : F_L_linesC ds Q Ex) : w_L_linesC (startE N_L_linesC ds) (fun xs env' => xs = (celsOf (gt env' 3)).map (fun q => Pd.D.raw (.ref q.1)) ∧ Q ((celsOf (gt env' 3)).map (·.2))) Ex := by
  obtain ⟨n, G, rfl, n1, n16, q⟩ := h
  have el : (((List.range n).map fun i => Ll (G i)).length : Int) = (n : Int) := by rw [List.length_map, List.length_range]
  show compW _ _ _ _ _ ((List.range n).map fun i => Ll (G i)) [_, _, _, _] _
  refine compW_ind (fun rest env acc => ∃ (as : List Addr) (s1 s2 c3 : Option Sl), env = [some (.d (rsL n G)), s1, s2, c3] ∧ rest = ((List.range n).drop as.length).map (fun i => Ll (G i)) ∧ as.length ≤ n ∧ acc = as.map (fun a => D.raw (.ref a)) ∧ (celsOf c3).map (·.1) = as ∧ (celsOf c3).map (·.2) = ((List.range as.length).map fun i => ((List.range n).map fun j => if bG G i j then (1 : Int) else 0).map D.int)) ?_ ?_ _ _ _ ⟨[], none, none, none, rfl, rfl, Nat.zero_le _, rfl, rfl, rfl⟩
  · rintro x rest env acc ⟨as, s1, s2, c3, rfl, er, hl, rfl, h1, h2⟩ ih
    have lt : as.length < n := by
      have e := congrArg List.length er
      rw [List.length_map, List.length_drop, List.length_range] at e
      simp at e
      omega
    rw [List.drop_eq_getElem_cons (by rw [List.length_range]; exact lt), List.getElem_range, List.map_cons] at er
    obtain ⟨rfl, rfl⟩ := List.cons.inj er
    refine br_tt rfl ?_
    show ((((List.range n).map fun i => Ll (G i)).length : Int) ≤ 1000000) ∧ (-1000000 ≤ (((List.range n).map fun i => Ll (G i)).length : Int)) ∧ compW _ _ _ _ _ (Pd.upTo 0 (((List.range n).map fun i => Ll (G i)).length : Int)) [some (.d (rsL n G)), some (.d (Ll (G as.length))), _, _] _
    rw [el]
    refine ⟨by omega, by omega, row_comp (i := as.length) (G := G) n16 (fun s => [some (.d (rsL n G)), some (.d (Ll (G as.length))), s, c3]) s2 (fun _ _ => rfl) (fun j K ex k => ?_) fun s => ?_⟩
    · refine ⟨by rw [Tt.plain_nats]; rfl, ?_⟩
      rw [Tt.any_nat]
      exact k
    · intro a ha
      refine ih _ _ ⟨as ++ [a], _, _, _, rfl, by rw [List.length_append]; rfl, by rw [List.length_append]; exact lt, by rw [List.map_append]; rfl, ?_, ?_⟩
      · show (celsOf c3 ++ [((a, _) : Addr × List D)]).map (fun q => q.1) = _
        rw [List.map_append, h1]
        rfl
      · show (celsOf c3 ++ [((a, _) : Addr × List D)]).map (fun q => q.2) = _
        rw [List.map_append, h2, List.length_append]
        show _ = (List.range (as.length + 1)).map _
        rw [List.range_succ, List.map_append]
        rfl
  · rintro env acc ⟨as, s1, s2, c3, rfl, er, hl, rfl, h1, h2⟩
    have e : as.length = n := by
      have e := congrArg List.length er
      rw [List.length_map, List.length_drop, List.length_range] at e
      simp at e
      omega
    refine ⟨?_, ?_⟩
    · show as.map (fun a => D.raw (.ref a)) = (celsOf c3).map (fun q => Pd.D.raw (.ref q.1))
      rw [← h1, List.map_map]
      rfl
    · show Q ((celsOf c3).map (·.2))
      rw [h2, e]
      have : (cel n (bG G)).map (fun r => r.map D.int) = (List.range n).map fun i => ((List.range n).map fun j => if bG G i j then (1 : Int) else 0).map D.int := by
        unfold cel
        rw [List.map_map]
        rfl
      rw [this] at q
      exact q
theorem len_L_linesC (ds : List D) (Q : List (List D) → Prop) (Ex : Xc → Prop) (h : F_L_linesC ds Q Ex) : ds.length = 1 := by
  obtain ⟨n, G, rfl, _⟩ := h
  rfl
end Pr

namespace Ta
open PySem PySem.Spec PyProof.Rows L2 LamX Pd
theorem inR_true {x : D} {a b : Int} (h : inR x a b = true) : ∃ i : Int, x = .int i ∧ a ≤ i ∧ i ≤ b := by
  cases x with
  | int i =>
    obtain ⟨h1, h2⟩ := Bool.and_eq_true_iff.mp (show (decide (a ≤ i) && decide (i ≤ b)) = true from h)
    exact ⟨i, rfl, of_decide_eq_true h1, of_decide_eq_true h2⟩
  | _ => cases h
theorem inR_ix {x : D} {n : Nat} (h : inR x 0 ((n : Int) - 1) = true) : ∃ i : Nat, i < n ∧ x = .int (i : Int) := by
  obtain ⟨i, rfl, h0, h1⟩ := inR_true h
  exact ⟨i.toNat, by omega, by rw [Int.toNat_of_nonneg h0]⟩
theorem pure_require_index (ds : List D) (Q : D → Prop) (Ex : Xc → Prop) (h : F_require_index ds Q Ex) : w_require_index (dEnds Q Ex) (startE N_require_index ds) := by
  obtain ⟨x, n, rfl, k, e, r⟩ := h
  refine ⟨x, 0, (n : Int) - 1, rfl, k, br_no (br_of (fun h => ?_) fun h => e h)⟩
  obtain ⟨i, hi, hx⟩ := inR_ix h
  exact r i hi hx
theorem len_require_index (ds : List D) (Q : D → Prop) (Ex : Xc → Prop) (h : F_require_index ds Q Ex) : ds.length = 2 := by
  obtain ⟨x, n, rfl, _⟩ := h
  rfl
theorem idx_int {r : List Int} {j : Nat} (h : j < r.length) : dIdx (Ti r) (.int (j : Int)) = some (.int (r.getD j 0)) := by
  refine idx_items rfl (by omega) ?_
  rw [Int.toNat_natCast, List.getElem?_map, List.getD_eq_getElem?_getD, List.getElem?_eq_getElem h]
  rfl
end Ta

namespace Tv
def ap (n : Nat) : List (Nat × Nat) := (List.range n).flatMap fun i => ((List.range n).filter fun j => decide (i < j)).map fun j => (i, j)
def pr (n : Nat) (t : Nat → Nat → Bool) : List (Nat × Nat) := (ap n).filter fun q => t q.1 q.2
def sy (t : Nat → Nat → Bool) (i j : Nat) : Bool := if i < j then t i j else if j < i then t j i else false
def dg (n : Nat) (t : Nat → Nat → Bool) (i : Nat) : Nat := ((List.range n).filter (sy t i)).length
end Tv

namespace Tv
open PySem PySem.Spec PyProof.Rows L2 LamX Pd
open Ta (ixP badN)
abbrev F_is_integer := Pd.F_is_integer
abbrev F_is_from := Pd.F_is_from
abbrev F_require_index := Ta.F_require_index
abbrev F_L_ball := Pd.F_draw
abbrev F_L_pick := Pd.F_pick
abbrev encT (q : Int × Int) : D := .tup [.int q.1, .int q.2]
def asc (ns : List Int) : Bool := (ns.zip (ns.drop 1)).all fun q => decide (q.1 < q.2)
def toI : D → Int
  | .int i => i
  | _ => 0
def idxB (x : D) (m : Int) : Bool := match x with
  | .tup xs => xs.all (fun y => inR y 0 (m - 1)) && asc (xs.map toI)
  | _ => false
def oth (ts : List (Int × Int)) (p : Int) : List Int := up ((ts.filter fun q => decide (q.1 = p) || decide (q.2 = p)).map fun q => q.1 + q.2 - p)
def badO : Xc := ⟨"InvalidOperation", []⟩
def F_is_ascending : Fn := fun ds Q _ => ∃ ns, ds = [Ti ns] ∧ ns.length ≤ 1000 ∧ Q (.bl (asc ns))
def F_are_indices : Fn := fun ds Q _ => ∃ x m, ds = [x, .int m] ∧ kds x ∧ (∀ xs, x = .tup xs → xs.length ≤ 1000) ∧ Q (.bl (idxB x m))
def prs (n : Nat) (t : Nat → Nat → Bool) : List (Int × Int) := (pr n t).map fun q => ((q.1 : Int), (q.2 : Int))
def bs (n : Nat) (t : Nat → Nat → Bool) (i : Nat) : List Int := ((List.range n).filter (sy t i)).map fun (j : Nat) => (j : Int)
def wbF (n : Nat) (t : Nat → Nat → Bool) : List (Str × D) := [("own_places", .int (n : Int)), ("own_ties", .tup ((prs n t).map encT)), ("own_beside", .lst ((List.range n).map fun (i : Nat) => Ti (bs n t i)))]
def wb (n : Nat) (t : Nat → Nat → Bool) : D := .ins "Web" (wbF n t)
end Tv

namespace Tv
open PySem PySem.Spec PyProof.Rows L2 LamX Pd
def N_is_integer : List Str := ["value"]
def w_is_integer : WS := (sRet (wAnd (w1 (dIsi "int") (wVar 0)) (wNot (w1 (dIsi "bool") (wVar 0)))))
def N_is_from : List Str := ["value", "first", "last"]
def w_is_from : WS := (sRet (wAnd (wCall F_is_integer (wCons (wVar 0) wNil)) (wChain dLe dLe (wVar 1) (wVar 0) (wVar 2))))
def N_is_ascending : List Str := ["items", "one", "other"]
def w_is_ascending : WS := (sRet (x1 fAll (wLst (wComp (wZip (wVar 0) (wSl (wVar 0) (wPart (W.ret (.int 1))) (W.ret none))) (gTupP (gsCons (gNm 1) (gsCons (gNm 2) gsNil)) 2) (W.ret true) (wBin dLt (wVar 1) (wVar 2)) [1, 2]))))
def N_are_indices : List Str := ["value", "size", "one"]
def w_are_indices : WS := (sSeq (sIf (tOrP (tNotP (wTest (w1 (dIsi "tuple") (wVar 0)))) (tNotP (wTest (x1 fAll (wLst (wComp (wItems (wVar 0)) (gNm 2) (W.ret true) (wCall F_is_from (wCons (wVar 2) (wCons (W.ret (.int 0)) (wCons (wBin dSub (wVar 1) (W.ret (.int 1))) wNil)))) [2])))))) (sRet (W.ret (.bl false))) sNil) (sRet (wCall F_is_ascending (wCons (wVar 0) wNil))))
def N_require_index : List Str := ["value", "size"]
def w_require_index : WS := (sIf (tNotP (wTest (wCall F_is_from (wCons (wVar 0) (wCons (W.ret (.int 0)) (wCons (wBin dSub (wVar 1) (W.ret (.int 1))) wNil)))))) (sRaiseV "InvalidNumber" "value" (wVar 0)) sNil)
def N_L_pick : List Str := ["_law_urn_here", "_law_items"]
def w_L_pick : WS := (sRet (xBin fIdx (wVar 1) (wCall F_L_ball (wCons (wVar 0) (wCons (w1 dLen (wVar 1)) wNil)))))
end Tv

namespace Tv
open PySem PySem.Spec PyProof.Rows L2 LamX Pd
theorem pure_is_integer (ds : List D) (Q : D → Prop) (Ex : Xc → Prop) (h : F_is_integer ds Q Ex) : w_is_integer (dEnds Q Ex) (startE N_is_integer ds) := Pd.pure_is_integer ds Q Ex h
theorem pure_is_from (ds : List D) (Q : D → Prop) (Ex : Xc → Prop) (h : F_is_from ds Q Ex) : w_is_from (dEnds Q Ex) (startE N_is_from ds) := Pd.pure_is_from ds Q Ex h
theorem upTo0 (j : Int) : Pd.upTo 0 j = (List.range j.toNat).map fun (i : Nat) => D.int (i : Int) := by
  unfold Pd.upTo
  rw [Int.sub_zero]
  refine List.map_congr_left fun k _ => ?_
  rw [Int.zero_add]
theorem eqb_int (a b : Int) : eqb (.int a) (.int b) = decide (a = b) := rfl
theorem zip_ints (a b : List Int) : zipD (a.map D.int) (b.map D.int) = (a.zip b).map fun q : Int × Int => .tup [.int q.1, .int q.2] := by
  unfold zipD
  rw [List.zip_map, List.map_map]
  rfl
theorem comp_zip {a b : List Int} {v u : Nat} {e : W D} {Q : List D → PEnv → Prop} (E : Option Sl → Option Sl → PEnv) (h : Int → Int → D) (s0 s1 : Option Sl) (hE : ∀ s z x y, ((wipeE (E s z) [v, u]).set v (some (.d x))).set u (some (.d y)) = E (some (.d x)) (some (.d y)))
    (he : ∀ x y : Int, ∀ (K : D → PEnv → Prop) ex, K (h x y) (E (some (.d (.int x))) (some (.d (.int y)))) → e (E (some (.d (.int x))) (some (.d (.int y)))) K ex)
    (hQ : ∀ s z, Q ((a.zip b).map fun q => h q.1 q.2) (E s z)) : compW (gTupP (gsCons (gNm v) (gsCons (gNm u) gsNil)) 2) (W.ret true) e [v, u] Q (zipD (a.map D.int) (b.map D.int)) (E s0 s1) [] := by
  rw [zip_ints]
  refine comp_pair (t := W.ret true) E (fun q => .int q.1) (fun q => .int q.2) (fun q => h q.1 q.2) (fun _ => true) (a.zip b) s0 s1 [] hE (fun q _ K ex k => k) (fun q _ _ => he q.1 q.2) fun s z => ?_
  rw [List.filter_eq_self.mpr fun _ _ => rfl]
  exact hQ s z
theorem comp_d {v : Nat} {e : W D} {Q : List D → PEnv → Prop} (E : Option Sl → PEnv) (h : D → D) (xs : List D) (s0 : Option Sl) (hE : ∀ s x, (wipeE (E s) [v]).set v (some (.d x)) = E (some (.d x)))
    (he : ∀ a ∈ xs, ∀ (K : D → PEnv → Prop) ex, K (h a) (E (some (.d a))) → e (E (some (.d a))) K ex) (hQ : ∀ s, Q (xs.map h) (E s)) : compW (gNm v) (W.ret true) e [v] Q xs (E s0) [] := by
  have := comp_all (v := v) (e := e) (Q := Q) E id h xs s0 [] hE he hQ
  rwa [List.map_id] at this
theorem pure_is_ascending (ds : List D) (Q : D → Prop) (Ex : Xc → Prop) (h : F_is_ascending ds Q Ex) : w_is_ascending (dEnds Q Ex) (startE N_is_ascending ds) := by
  obtain ⟨ns, rfl, hl, q⟩ := h
  show compW _ _ _ _ _ (zipD (ns.map D.int) (Pd.cutD (ns.map D.int) (some ((1 : Nat) : Int)) none)) _ _
  rw [cut_from, ← List.map_drop]
  refine comp_zip (fun s z => [some (.d (Ti ns)), s, z]) (fun x y => .bl (decide (x < y))) none none (fun _ _ _ _ => rfl) (fun x y K ex k => k) fun s z => ?_
  refine ⟨(ns.zip (ns.drop 1)).map fun q : Int × Int => decide (q.1 < q.2), by rw [List.map_map]; rfl, ?_⟩
  rw [List.all_map]
  exact q
theorem len_is_ascending (ds : List D) (Q : D → Prop) (Ex : Xc → Prop) (h : F_is_ascending ds Q Ex) : ds.length = 1 := by
  obtain ⟨x, rfl, _⟩ := h
  rfl
theorem all_ints {xs : List D} {a b : Int} (h : xs.all (fun y => Pd.inR y a b) = true) : xs = (xs.map toI).map D.int := by
  induction xs with
  | nil => rfl
  | cons x xs ih =>
    rw [List.all_cons, Bool.and_eq_true] at h
    obtain ⟨i, rfl, _⟩ := Ta.inR_true h.1
    rw [List.map_cons, List.map_cons, ← ih h.2]
    rfl
theorem pure_are_indices (ds : List D) (Q : D → Prop) (Ex : Xc → Prop) (h : F_are_indices ds Q Ex) : w_are_indices (dEnds Q Ex) (startE N_are_indices ds) := by
  obtain ⟨x, m, rfl, ⟨kx, ks⟩, hl, q⟩ := h
  cases x with
  | tup xs =>
    refine br_ff rfl ?_
    refine comp_d (fun s => [some (.d (.tup xs)), some (.d (.int m)), s]) (fun y => .bl (Pd.inR y 0 (m - 1))) xs none (fun _ _ => rfl) (fun y hy K ex k => ⟨y, 0, m - 1, rfl, ks _ rfl y hy, k⟩) fun s => ?_
    refine ⟨xs.map fun y => Pd.inR y 0 (m - 1), by rw [List.map_map]; rfl, ?_⟩
    have q2 : Q (.bl (xs.all (fun y => Pd.inR y 0 (m - 1)) && asc (xs.map toI))) := q
    rw [List.all_map]
    show br (!(xs.all fun y => Pd.inR y 0 (m - 1))) _ _
    refine br_no (br_of (fun h => ?_) (fun h => ?_))
    · rw [h, Bool.true_and] at q2
      have e := all_ints h
      exact ⟨xs.map toI, congrArg (fun z => [D.tup z]) e, by rw [List.length_map]; exact hl _ rfl, q2⟩
    · rw [h, Bool.false_and] at q2
      exact q2
  | int i => exact br_tt rfl (br_tt rfl q)
  | bl b => exact br_tt rfl (br_tt rfl q)
  | non => exact br_tt rfl (br_tt rfl q)
  | str y => exact br_tt rfl (br_tt rfl q)
  | lst y => exact br_tt rfl (br_tt rfl q)
  | dic y => exact br_tt rfl (br_tt rfl q)
  | _ => cases kx
theorem len_are_indices (ds : List D) (Q : D → Prop) (Ex : Xc → Prop) (h : F_are_indices ds Q Ex) : ds.length = 2 := by
  obtain ⟨x, y, rfl, _⟩ := h
  rfl
end Tv

namespace Tv
open PySem PySem.Spec PyProof.Rows L2 LamX Pd
end Tv

namespace Zm
open PySem PySem.Spec PyProof.Rows L2 PySem.SeqAt PySem.W
open AutoSeq1 (wpAny_loadPart')
open MeetsSeq
section
variable {prog : Program} {w : World} {A : Around} {E : Value → Shared → Prop} {s : Shared}
end
end Zm

namespace Pd
open PySem PySem.Spec PyProof.Rows L2 LamX
open MeetsSeq MeetsSeq2 MeetsSeq3 SeqRoads2
section
variable {X : Cx} {T : List (Addr × Str)} {E : XK} {k j : Nat} {pins : List (Addr × Obj)} {σ : L2.St} {wd : Wd} {H : Hp} {s : Shared}
end
end Pd

namespace Pd
open PySem PySem.Spec PyProof.Rows L2 LamX
open MeetsSeq MeetsSeq2 MeetsSeq3 SeqRoads2
def EqMs (X : Cx) (T : List (Addr × Str)) (k : Nat) (Cs : List Str) : List (Str × Fn) → Prop
  | [] => True
  | (C, F) :: r => (C ∈ Cs ∧ ∃ j, j < k ∧ MethOk X.prog X.w X.K X.mg X.base T C "__eq__" j F) ∧ EqMs X T k Cs r
section
variable {K : PySem.W.Frag} {wd : Wd}
end
section
variable {X : Cx} {T : List (Addr × Str)} {E : XK} {k j : Nat} {Cs : List Str}
theorem EqMs.get {C : Str} {F : Fn} : ∀ {r : List (Str × Fn)}, EqMs X T k Cs r → r.lookup C = some F → C ∈ Cs ∧ ∃ j, j < k ∧ MethOk X.prog X.w X.K X.mg X.base T C "__eq__" j F
  | (C', F') :: r, ⟨h, e⟩, q => by
    by_cases c : (C == C') = true
    · have : List.lookup C ((C', F') :: r) = some F' := by simp only [List.lookup, c]
      rw [this] at q
      cases q
      rw [eq_of_beq c]
      exact h
    · have c' : (C == C') = false := by simpa using c
      have : List.lookup C ((C', F') :: r) = r.lookup C := by simp only [List.lookup, c']
      rw [this] at q
      exact EqMs.get e q
end
end Pd

namespace Zm
open PySem PySem.Spec PyProof.Rows L2 PySem.SeqAt PySem.W
open AutoSeq1 (wpAny_loadPart')
open MeetsSeq MeetsSeq2 MeetsSeq3 SeqRoads2
section
variable {prog : Program} {w : World} {A : Around} {E : Value → Shared → Prop} {s : Shared}
end
end Zm

namespace Pd
open PySem PySem.Spec PyProof.Rows L2 LamX
section
variable {X : Cx} {T : List (Addr × Str)} {E : XK} {k j : Nat} {Cs : List Str} {op : CmpOp} {rel : D → D → Bool → Prop} {x y : Expr} {a b : W D} {pos : Pos}
end
end Pd

namespace Te
open PySem PySem.Spec PyProof.Rows L2 LamX Pd
open Ta (lnD tbD badN)
mutual
theorem eqb_self : ∀ (n : Nat) (x : D), plain n x = true → eqb x x = true
  | 0, x, h => by cases h
  | n + 1, .non, _ => rfl
  | n + 1, .bl b, _ => by simp [eqb]
  | n + 1, .int b, _ => by simp [eqb]
  | n + 1, .str b, _ => by simp [eqb]
  | n + 1, .tup xs, h => eqbs_self n xs h
  | n + 1, .lst xs, h => eqbs_self n xs h
  | n + 1, .scr _, h => by cases h
  | n + 1, .dic _, h => by cases h
  | n + 1, .dit _, h => by cases h
  | n + 1, .ins _ _, h => by cases h
  | n + 1, .box _, h => by cases h
  | n + 1, .raw _, h => by cases h
theorem eqbs_self : ∀ (n : Nat) (xs : List D), xs.all (plain n) = true → eqbs xs xs = true
  | n, [], _ => rfl
  | n, x :: xs, h => by
    rw [List.all_cons, Bool.and_eq_true] at h
    show (eqb x x && eqbs xs xs) = true
    rw [eqb_self n x h.1, eqbs_self n xs h.2]
    rfl
end
def other (Cs : List Str) (C : Str) (x : D) : Prop := dIsC Cs C x = some (.bl false)
theorem w1_var {g : D → Option D} {i : Nat} {env : PEnv} {x z : D} {Q : D → PEnv → Prop} {ex : Xc → Prop} (h : gt env i = some (.d x)) (o : g x = some z) (q : Q z env) : Pd.w1 g (wVar i) env Q ex := by
  show (wVar i) env (fun x env' => W.opt (g x) env' Q ex) ex
  unfold wVar
  rw [h]
  show W.opt (g x) env Q ex
  rw [o]
  exact q
def told (s : Str) (x : D) : Bool := (dTy x).isSome && (okR x && (sho 30 x && (decide (wt x ≤ 100000) && (decide (s.length + (shown x).length ≤ 1000000) && PyData.strOk (s ++ shown x)))))
theorem upTo_nat (n : Nat) : Pd.upTo 0 (n : Int) = (List.range n).map fun i : Nat => D.int (i : Int) := by
  unfold Pd.upTo
  rw [show ((n : Int) - 0).toNat = n by omega]
  refine List.map_congr_left fun k _ => ?_
  show D.int (0 + (k : Int)) = _
  rw [Int.zero_add]
end Te

namespace Te
open PySem PySem.Spec PyProof.Rows L2 LamX Pd
end Te

namespace Te
open PySem PySem.Spec PyProof.Rows L2 LamX Pd
end Te

namespace Pr
open PySem PySem.Spec PyProof.Rows L2 LamX Pd
open Ta (Tb lnD tbD wd lsum csum cl colI)
open Tt (Nl Tl Ll rws rwD trD Gd)
open Qt (To)
open Eu (S bi Hf opn won more Og Ev)
theorem eqbs_ints : ∀ (a b : List Int), eqbs (a.map D.int) (b.map D.int) = decide (a = b)
  | [], [] => rfl
  | [], _ :: _ => rfl
  | _ :: _, [] => rfl
  | x :: a, y :: b => by
    show (eqb (.int x) (.int y) && eqbs (a.map D.int) (b.map D.int)) = _
    rw [eqb_int, eqbs_ints a b]
    by_cases h : x = y
    · subst h
      simp
    · simp [h]
theorem at_row {rs : List (List Int)} {i : Nat} (h : i < rs.length) : rs[i]? = some (rs.getD i []) := by
  rw [List.getD_eq_getElem?_getD, List.getElem?_eq_getElem h]
  rfl
theorem list_range {α : Type} (l : List α) (d : α) : l = (List.range l.length).map fun i => l.getD i d := by
  refine List.ext_getElem? fun i => ?_
  by_cases h : i < l.length
  · rw [List.getElem?_map, List.getElem?_range h]
    show l[i]? = some (l.getD i d)
    rw [List.getD_eq_getElem?_getD, List.getElem?_eq_getElem h]
    rfl
  · rw [List.getElem?_eq_none (by omega), List.getElem?_eq_none (by rw [List.length_map, List.length_range]; omega)]
theorem enD_rows : ∀ (rs : List (List Int)) (n : Nat) (f : List Int → D), Pd.enD n (rs.map f) = (List.range rs.length).map fun i => D.tup [.int ((n + i : Nat) : Int), f (rs.getD i [])]
  | [], n, f => rfl
  | r :: rs, n, f => by
    show D.tup [.int (n : Int), f r] :: Pd.enD (n + 1) (rs.map f) = _
    rw [enD_rows rs (n + 1) f, List.length_cons, List.range_succ_eq_map, List.map_cons, List.map_map]
    congr 1
    refine List.map_congr_left fun i _ => ?_
    show D.tup [.int ((n + 1 + i : Nat) : Int), f (rs.getD i [])] = D.tup [.int ((n + (i + 1) : Nat) : Int), f ((r :: rs).getD (i + 1) [])]
    rw [show n + 1 + i = n + (i + 1) by omega]
    rfl
theorem row_len {c : Int} {rs : List (List Int)} (t : Tb c rs) {i : Nat} (h : i < rs.length) : (rs.getD i []).length = wd rs ∧ 1 ≤ wd rs ∧ wd rs ≤ 12 := by
  obtain ⟨m, m1, m2, hm⟩ := t.w
  have e : wd rs = m := by
    unfold wd
    cases rs with
    | nil => simp at h
    | cons r rs => exact hm r List.mem_cons_self
  rw [e]
  refine ⟨hm _ ?_, m1, m2⟩
  exact List.mem_of_getElem? (at_row h)
theorem csum_eq {rs : List (List Int)} (h : wd rs = rs.length) : csum rs = (List.range rs.length).map fun i => (colI rs i).sum := by
  unfold csum Ta.flip
  rw [List.map_map, h]
  rfl
theorem lsum_eq (rs : List (List Int)) : lsum rs = (List.range rs.length).map fun i => (lsum rs).getD i 0 := by
  have := list_range (lsum rs) 0
  unfold lsum at this ⊢
  rw [List.length_map] at this
  exact this
theorem zip_range {α β : Type} (n : Nat) (f : Nat → α) (g : Nat → β) : ((List.range n).map f).zip ((List.range n).map g) = (List.range n).map fun i => (f i, g i) := by
  rw [List.zip_map']
theorem smB_zip {rs : List (List Int)} (h : wd rs = rs.length) : ((lsum rs).zip (csum rs)).all (fun q => decide (q.1 + q.2 = (rs.length : Int) - 1)) = smB rs := by
  rw [csum_eq h]
  conv => lhs; rw [lsum_eq rs]
  rw [zip_range, List.all_map]
  rfl
theorem halfB_no {c : Int} {rs : List (List Int)} (h : ¬ (c = 1 ∧ wd rs = rs.length)) : halfB c rs = false := by
  unfold halfB
  by_cases h1 : c = 1
  · rw [decide_eq_true h1, decide_eq_false fun z => h ⟨h1, z⟩]
    rfl
  · rw [decide_eq_false h1]
    rfl
theorem halfB_yes {c : Int} {rs : List (List Int)} (h1 : c = 1) (h2 : wd rs = rs.length) : halfB c rs = (dgB rs && smB rs) := by
  unfold halfB
  rw [decide_eq_true h1, decide_eq_true h2]
  rfl
theorem pure_is_half (ds : List D) (Q : D → Prop) (Ex : Xc → Prop) (h : F_is_half ds Q Ex) : w_is_half (dEnds Q Ex) (startE N_is_half ds) := by
  obtain ⟨c, rs, rfl, t, q⟩ := h
  have l1 := t.l1
  obtain ⟨r0, e0⟩ : ∃ r0, rs[0]? = some r0 := ⟨_, List.getElem?_eq_getElem (by omega)⟩
  have w0 : r0.length = wd rs := by
    have := (row_len t (i := 0) (by omega)).1
    rw [List.getD_eq_getElem?_getD, e0] at this
    exact this
  refine ⟨rfl, _, rfl, rfl, _, rfl, rfl, ?_⟩
  show br (!(decide (c = 1))) _ _
  refine br_no (br_of (fun hc => ?_) fun hc => ?_)
  case refine_2 =>
    rw [halfB_no fun z => absurd z.1 (of_decide_eq_false hc)] at q
    exact br_tt rfl q
  have hc := of_decide_eq_true hc
  refine ⟨rfl, _, rfl, Ti r0, Ta.idx_items (x := lnD rs) rfl (by decide) (by
    show (rs.map Ti)[(0 : Int).toNat]? = some (Ti r0)
    rw [List.getElem?_map]
    show (rs[0]?).map Ti = _
    rw [e0]
    rfl), rfl, ?_⟩
  show br (!(decide (((r0.map D.int).length : Int) = ((rs.map Ti).length : Int)))) _ _
  rw [List.length_map, List.length_map, w0]
  refine br_no (br_of (fun hw => ?_) fun hw => ?_)
  case refine_2 =>
    rw [halfB_no fun z => absurd (by rw [z.2] : ((wd rs : Nat) : Int) = (rs.length : Int)) (of_decide_eq_false hw)] at q
    exact q
  have hw : wd rs = rs.length := by have := of_decide_eq_true hw; omega
  rw [halfB_yes hc hw] at q
  dsimp only [sNil]
  refine ⟨rfl, _, rfl, ?_⟩
  show compW _ _ _ _ _ (Pd.enD 0 (rs.map Ti)) _ _
  rw [enD_rows rs 0 Ti]
  refine comp_pair (v := 2) (u := 3) (t := W.ret true) (fun s z => [some (.d (tbD c rs)), some (.d (.int (rs.length : Int))), s, z, none, none]) (fun i : Nat => .int ((0 + i : Nat) : Int)) (fun i => Ti (rs.getD i [])) (fun i => .bl (!decide (cl rs i i = 0))) (fun _ => true) (List.range rs.length) none none [] (fun _ _ _ _ => rfl) (fun i _ K ex k => k) (fun i hi _ K ex k => ?_) fun s z => ?_
  · have hi := List.mem_range.mp hi
    have := (row_len t hi).1
    refine ⟨.int ((rs.getD i []).getD i 0), ?_, rfl, k⟩
    rw [Nat.zero_add]
    exact Ta.idx_items rfl (by omega) (by
      rw [Int.toNat_natCast, List.getElem?_map, List.getD_eq_getElem?_getD (l := rs.getD i []), List.getElem?_eq_getElem (by omega)]
      rfl)
  rw [List.filter_eq_self.mpr fun _ _ => rfl]
  refine ⟨(List.range rs.length).map fun i => !decide (cl rs i i = 0), by rw [List.map_map]; rfl, ?_⟩
  have ea : ((List.range rs.length).map fun i => !decide (cl rs i i = 0)).any id = !dgB rs := by
    unfold dgB
    rw [List.any_map, List.not_all_eq_any_not]
    rfl
  rw [ea]
  refine br_no (br_of (fun hd => ?_) fun hd => ?_)
  case refine_2 =>
    rw [hd] at q
    exact q
  rw [hd, Bool.true_and] at q
  dsimp only [sNil]
  refine ⟨rfl, c, rs, rfl, t, rfl, c, rs, rfl, t, ?_⟩
  show compW _ _ _ _ _ (zipD ((lsum rs).map D.int) ((csum rs).map D.int)) [_, _, _, _, _, _] _
  refine Tt.comp_zip (v := 4) (u := 5) (fun s' z' => [some (.d (tbD c rs)), some (.d (.int (rs.length : Int))), _, _, s', z']) (fun x y => .bl (decide (x + y = (rs.length : Int) - 1))) none none (fun _ _ _ _ => rfl) (fun x y K ex k => ?_) fun s' z' => ?_
  · refine ⟨rfl, ?_⟩
    exact k
  · refine ⟨((lsum rs).zip (csum rs)).map fun q => decide (q.1 + q.2 = (rs.length : Int) - 1), by rw [List.map_map]; rfl, ?_⟩
    rw [List.all_map]
    show Q (.bl (((lsum rs).zip (csum rs)).all fun q => decide (q.1 + q.2 = (rs.length : Int) - 1)))
    rw [smB_zip hw]
    exact q
theorem len_is_half (ds : List D) (Q : D → Prop) (Ex : Xc → Prop) (h : F_is_half ds Q Ex) : ds.length = 1 := by
  obtain ⟨c, rs, rfl, _⟩ := h
  rfl
theorem pure_is_half_table (ds : List D) (Q : D → Prop) (Ex : Xc → Prop) (h : F_is_half_table ds Q Ex) : w_is_half_table (dEnds Q Ex) (startE N_is_half_table ds) := by
  obtain ⟨x, rfl, ⟨c, rs, rfl, t, q⟩ | ⟨h | ⟨n, G, rfl⟩, q⟩⟩ := h
  · exact br_tt rfl ⟨c, rs, rfl, t, q⟩
  · cases x <;> first | exact br_ff rfl q | cases h
  · exact br_ff rfl q
theorem len_is_half_table (ds : List D) (Q : D → Prop) (Ex : Xc → Prop) (h : F_is_half_table ds Q Ex) : ds.length = 1 := by
  obtain ⟨x, rfl, _⟩ := h
  rfl
end Pr

namespace Pr
open PySem PySem.Spec PyProof.Rows L2 LamX Pd
open Ta (Tb lnD tbD wd lsum csum cl colI)
open Tt (Nl Tl Ll rws rwD trD Gd)
open Qt (To)
open Eu (S bi Hf opn won more Og Ev)
theorem idx_rows {rs : List (List Int)} {i : Nat} (h : i < rs.length) : dIdx (rowsD rs) (.int (i : Int)) = some (Li (rs.getD i [])) := by
  refine Ta.idx_items (x := rowsD rs) rfl (by omega) ?_
  rw [Int.toNat_natCast, List.getElem?_map, at_row h]
  rfl
theorem idx_li {r : List Int} {j : Nat} (h : j < r.length) : dIdx (Li r) (.int (j : Int)) = some (.int (r.getD j 0)) := by
  refine Ta.idx_items (x := Li r) rfl (by omega) ?_
  rw [Int.toNat_natCast, List.getElem?_map, List.getD_eq_getElem?_getD, List.getElem?_eq_getElem h]
  rfl
theorem plain_li (r : List Int) (n : Nat) : plain (n + 2) (Li r) = true := by
  show (r.map D.int).all (plain (n + 1)) = true
  rw [List.all_map]
  exact List.all_eq_true.mpr fun x _ => rfl
theorem rep_flat (n : Nat) (x : D) : (List.replicate n [x]).flatten = List.replicate n x := by
  induction n with
  | zero => rfl
  | succ n ih => rw [List.replicate_succ, List.flatten_cons, ih]; rfl
theorem sum_all {n : Nat} {f : Nat → Int} {z : Int} : decide ((List.range n).map f = List.replicate n z) = (List.range n).all fun i => decide (f i = z) := by
  have : (List.range n).map f = List.replicate n z ↔ ∀ i, i < n → f i = z := by
    rw [List.eq_replicate_iff]
    constructor
    · rintro ⟨_, h⟩ i hi
      exact h _ (List.mem_map.mpr ⟨i, List.mem_range.mpr hi, rfl⟩)
    · intro h
      refine ⟨by rw [List.length_map, List.length_range], fun b hb => ?_⟩
      obtain ⟨i, hi, rfl⟩ := List.mem_map.mp hb
      exact h i (List.mem_range.mp hi)
  by_cases h : (List.range n).map f = List.replicate n z
  · rw [decide_eq_true h]
    symm
    exact List.all_eq_true.mpr fun i hi => decide_eq_true (this.mp h i (List.mem_range.mp hi))
  · rw [decide_eq_false h]
    symm
    refine Bool.eq_false_iff.mpr fun y => h (this.mpr fun i hi => ?_)
    exact of_decide_eq_true (List.all_eq_true.mp y i (List.mem_range.mpr hi))
theorem pure_L_is_half (ds : List D) (Q : D → Prop) (Ex : Xc → Prop) (h : F_L_is_half ds Q Ex) : w_L_is_half (dEnds Q Ex) (startE N_L_is_half ds) := by
  obtain ⟨c, rs, rfl, t, q⟩ := h
  have l1 := t.l1
  have l12 := t.l12
  refine ⟨rfl, ?_⟩
  show br (!(decide (c = 1))) _ _
  refine br_no (br_of (fun hc => ?_) fun hc => ?_)
  case refine_2 =>
    rw [halfB_no fun z => absurd z.1 (of_decide_eq_false hc)] at q
    exact q
  have hc := of_decide_eq_true hc
  dsimp only [sNil]
  have w0 := row_len t (i := 0) (by omega)
  refine ⟨Li (rs.getD 0 []), idx_rows (i := 0) (by omega), rfl, ?_⟩
  show br (!(decide ((((rs.getD 0 []).map D.int).length : Int) = ((rs.map Li).length : Int)))) _ _
  rw [List.length_map, List.length_map, w0.1]
  refine br_no (br_of (fun hw => ?_) fun hw => ?_)
  case refine_2 =>
    rw [halfB_no fun z => absurd (by rw [z.2] : ((wd rs : Nat) : Int) = (rs.length : Int)) (of_decide_eq_false hw)] at q
    exact q
  have hw : wd rs = rs.length := by have := of_decide_eq_true hw; omega
  rw [halfB_yes hc hw] at q
  dsimp only [sNil]
  refine ⟨by omega, by omega, ?_⟩
  rw [Tt.upTo_nat]
  refine comp_enc (v := 4) (fun s => [some (.d (rowsD rs)), some (.d (.int c)), some (.d (.int (rs.length : Int))), none, s, none, none]) (fun i : Nat => D.int (i : Int)) (fun i => .int (i : Int)) (fun i => !decide (cl rs i i = 0)) (List.range rs.length) none [] (fun _ _ => rfl) (fun i hi K ex k => ?_) (fun i hi _ K ex k => k) fun s => ?_
  · have hi := List.mem_range.mp hi
    have := (row_len t hi).1
    exact ⟨_, idx_rows hi, _, idx_li (by omega), rfl, k⟩
  obtain ⟨A, hA⟩ : ∃ A, A = (List.range rs.length).filter fun i => !decide (cl rs i i = 0) := ⟨_, rfl⟩
  have eA : ([] ++ ((List.range rs.length).filter fun i => !decide (cl rs i i = 0)).map fun i : Nat => D.int (i : Int)) = (Nl A).map D.int := by
    rw [List.nil_append, ← hA, List.map_map]
    rfl
  rw [eA]
  have ed : decide (Nl A = []) = dgB rs := by
    unfold dgB
    have : Nl A = [] ↔ ∀ i, i < rs.length → cl rs i i = 0 := by
      rw [hA]
      show List.map _ _ = [] ↔ _
      rw [List.map_eq_nil_iff, List.filter_eq_nil_iff]
      exact ⟨fun h i hi => Classical.byContradiction fun z => h i (List.mem_range.mpr hi) (by rw [decide_eq_false z]; rfl), fun h i hi => by rw [decide_eq_true (h i (List.mem_range.mp hi))]; exact Bool.false_ne_true⟩
    by_cases z : Nl A = []
    · rw [decide_eq_true z]
      symm
      exact List.all_eq_true.mpr fun i hi => decide_eq_true (this.mp z i (List.mem_range.mp hi))
    · rw [decide_eq_false z]
      symm
      exact Bool.eq_false_iff.mpr fun y => z (this.mpr fun i hi => of_decide_eq_true (List.all_eq_true.mp y i (List.mem_range.mpr hi)))
  refine ⟨Nat.le_of_ble_eq_true rfl, by rw [show plain 60 (.lst ((Nl A).map D.int)) = true from plain_li (Nl A) 58]; rfl, ?_⟩
  show br (!(eqbs ((Nl A).map D.int) (([] : List Int).map D.int))) _ _
  rw [eqbs_ints, ed]
  refine br_no (br_of (fun hd => ?_) fun hd => ?_)
  case refine_2 =>
    rw [hd] at q
    exact q
  rw [hd, Bool.true_and] at q
  dsimp only [sNil]
  show sSeq (sSet _ _) _ _ [_, _, _, _, _, _, _]
  have l12' : ((rs.length : Nat) : Int) ≤ 12 := by omega
  refine ⟨by omega, by omega, ?_⟩
  show compW _ _ _ _ _ (Pd.upTo 0 (rs.length : Int)) [_, _, _, _, _, _, _] _
  rw [Tt.upTo_nat]
  refine comp_all (v := 4) (fun s => [some (.d (rowsD rs)), some (.d (.int c)), some (.d (.int (rs.length : Int))), none, s, none, none]) (fun i : Nat => D.int (i : Int)) (fun i => .int (colI rs i).sum) (List.range rs.length) _ [] (fun _ _ => rfl) (fun i hi K ex k => ?_) fun s => ?_
  · have hi := List.mem_range.mp hi
    refine comp_all (v := 5) (fun s => [some (.d (rowsD rs)), some (.d (.int c)), some (.d (.int (rs.length : Int))), none, some (.d (.int (i : Int))), s, none]) Li (fun r => .int (r.getD i 0)) rs none [] (fun _ _ => rfl) (fun r hr K ex k => ?_) fun s => ?_
    · obtain ⟨j, hj, e⟩ := List.getElem_of_mem hr
      have := (row_len t hj).1
      rw [List.getD_eq_getElem?_getD, List.getElem?_eq_getElem hj] at this
      have e2 : r.length = wd rs := by rw [← e]; exact this
      exact ⟨_, idx_li (by omega), k⟩
    · refine ⟨colI rs i, ?_, k⟩
      unfold colI
      rw [List.map_map]
      rfl
  have ez : zipD (rs.map Li) ([] ++ (List.range rs.length).map fun i => D.int (colI rs i).sum) = (List.range rs.length).map fun i => D.tup [Li (rs.getD i []), .int (colI rs i).sum] := by
    unfold zipD
    rw [List.nil_append]
    conv => lhs; rw [list_range (rs.map Li) (Li [])]
    rw [List.length_map, zip_range, List.map_map]
    refine List.map_congr_left fun i hi => ?_
    have hi := List.mem_range.mp hi
    show D.tup [(rs.map Li).getD i (Li []), _] = _
    rw [List.getD_eq_getElem?_getD, List.getElem?_map, at_row hi]
    rfl
  show compW _ _ _ _ _ (zipD (rs.map Li) ([] ++ (List.range rs.length).map fun i => D.int (colI rs i).sum)) [_, _, _, _, _, _, _] _
  rw [ez]
  refine comp_pair (v := 5) (u := 6) (t := W.ret true) (fun s z => [some (.d (rowsD rs)), some (.d (.int c)), some (.d (.int (rs.length : Int))), _, _, s, z]) (fun i : Nat => Li (rs.getD i [])) (fun i => .int (colI rs i).sum) (fun i => .int ((lsum rs).getD i 0 + (colI rs i).sum)) (fun _ => true) (List.range rs.length) _ _ [] (fun _ _ _ _ => rfl) (fun i _ K ex k => k) (fun i hi _ K ex k => ?_) fun s z => ?_
  · have hi := List.mem_range.mp hi
    refine ⟨rs.getD i [], rfl, ?_⟩
    have : (lsum rs).getD i 0 = (rs.getD i []).sum := by
      unfold lsum
      rw [List.getD_eq_getElem?_getD, List.getElem?_map, at_row hi]
      rfl
    rw [this] at k
    exact k
  rw [List.filter_eq_self.mpr fun _ _ => rfl, List.nil_append]
  refine ⟨Nat.le_of_ble_eq_true rfl, ⟨by omega, by omega, by simp; omega⟩, ?_⟩
  have e1 : ((List.range rs.length).map fun i => D.int ((lsum rs).getD i 0 + (colI rs i).sum)) = ((List.range rs.length).map fun i => (lsum rs).getD i 0 + (colI rs i).sum).map D.int := by
    rw [List.map_map]
    rfl
  have e2 : (List.replicate (rs.length : Int).toNat [D.int ((rs.length : Int) - 1)]).flatten = (List.replicate rs.length ((rs.length : Int) - 1)).map D.int := by
    rw [Int.toNat_natCast, List.map_replicate]
    exact rep_flat _ _
  show (plain 60 (.lst ((List.range rs.length).map fun i => D.int ((lsum rs).getD i 0 + (colI rs i).sum))) && plain 60 (.lst (List.replicate (rs.length : Int).toNat [D.int ((rs.length : Int) - 1)]).flatten)) = true ∧ Q (.bl (eqbs ((List.range rs.length).map fun i => D.int ((lsum rs).getD i 0 + (colI rs i).sum)) (List.replicate (rs.length : Int).toNat [D.int ((rs.length : Int) - 1)]).flatten))
  rw [e1, e2, eqbs_ints, sum_all]
  refine ⟨?_, q⟩
  rw [show plain 60 (.lst (((List.range rs.length).map fun i => (lsum rs).getD i 0 + (colI rs i).sum).map D.int)) = true from plain_li _ 58, show plain 60 (.lst ((List.replicate rs.length ((rs.length : Int) - 1)).map D.int)) = true from plain_li _ 58]
  rfl
theorem len_L_is_half (ds : List D) (Q : D → Prop) (Ex : Xc → Prop) (h : F_L_is_half ds Q Ex) : ds.length = 2 := by
  obtain ⟨c, rs, rfl, _⟩ := h
  rfl
theorem cel_sums {n : Nat} {b : Nat → Nat → Bool} {G : Nat → List Nat} (h : ∀ i, i < n → (G i).length = S n fun j => bi (b i j)) : Tt.Sv n (fun i => (G i).length) = (cel n b).map List.sum := by
  unfold Tt.Sv cel
  rw [List.map_map]
  refine List.map_congr_left fun i hi => ?_
  show (((G i).length : Nat) : Int) = ((List.range n).map fun j => if b i j then (1 : Int) else 0).sum
  rw [sum_bi fun j => b i j, h i (List.mem_range.mp hi)]
theorem pure_L_halved_right (ds : List D) (Q : D → Prop) (Ex : Xc → Prop) (h : F_L_halved_right ds Q Ex) : w_L_halved_right (dEnds Q Ex) (startE N_L_halved_right ds) := by
  obtain ⟨n, b, rfl, hb, n1, n12, q⟩ := h
  refine ⟨1, cel n b, rfl, cel_tb n1 n12, .inl ⟨n, b, rfl, rfl, hb, n1, n12, fun G o => ?_⟩⟩
  obtain ⟨g, sc, st⟩ := o
  refine br_ff rfl ⟨rfl, n, G, rfl, by omega, ?_⟩
  refine comp_all (v := 7) (fun s => [some (.d (tbD 1 (cel n b))), some (.d (rowsD (cel n b))), none, some (.d (trD n G)), some (.d (.int ((cel n b).map Li).length)), none, none, s]) Li (fun r => .int r.sum) (cel n b) none [] (fun _ _ => rfl) (fun r hr K ex k => ⟨r, rfl, k⟩) fun s => ?_
  have e1 : ([] ++ (cel n b).map fun r => D.int r.sum) = ((cel n b).map List.sum).map D.int := by
    rw [List.nil_append, List.map_map]
    rfl
  show (plain 60 (Ti (Tt.Sv n fun i => (G i).length)) && plain 60 (.tup ([] ++ (cel n b).map fun r => D.int r.sum))) = true ∧ br (!(eqbs ((Tt.Sv n fun i => (G i).length).map D.int) ([] ++ (cel n b).map fun r => D.int r.sum))) _ _
  rw [e1, eqbs_ints, cel_sums sc, decide_eq_true rfl]
  refine ⟨?_, br_ff rfl ?_⟩
  · have : ∀ r : List Int, plain 60 (Ti r) = true := fun r => plain_li r 58
    rw [this]
    rfl
  dsimp only [sNil]
  have eL : (((cel n b).map Li).length : Int) = (n : Int) := by rw [List.length_map, cel_len]
  show sSeq (sFor _ _ _) _ _ [_, _, _, _, _, _, _, _]
  show ((((cel n b).map Li).length : Int) ≤ 1000000) ∧ (-1000000 ≤ (((cel n b).map Li).length : Int)) ∧ forW _ _ _ (Pd.upTo 0 (((cel n b).map Li).length : Int)) _
  rw [eL]
  refine ⟨by omega, by omega, ?_⟩
  refine forW_ind (fun rest env => ∃ (k : Nat) (s2 s5 s6 s7 : Option Sl), rest = Pd.upTo (k : Int) (n : Int) ∧ env = [some (.d (tbD 1 (cel n b))), some (.d (rowsD (cel n b))), s2, some (.d (trD n G)), some (.d (.int (n : Int))), s5, s6, s7]) ?_ ?_ _ _ ⟨0, none, none, none, _, rfl, rfl⟩
  · rintro x rest env ⟨k, s2, s5, s6, s7, er, rfl⟩ ih
    obtain ⟨hk, rfl, rfl⟩ := Ts.upTo_in er
    refine ⟨by omega, by omega, ?_⟩
    refine forW_ind (fun rest env => ∃ (j : Nat) (s5 s6 s7 : Option Sl), rest = Pd.upTo (j : Int) (n : Int) ∧ env = [some (.d (tbD 1 (cel n b))), some (.d (rowsD (cel n b))), some (.d (.int (k : Int))), some (.d (trD n G)), some (.d (.int (n : Int))), s5, s6, s7]) ?_ ?_ _ _ ⟨0, s5, s6, s7, rfl, rfl⟩
    · rintro x rest env ⟨j, s5, s6, s7, er, rfl⟩ ih2
      obtain ⟨hj, rfl, rfl⟩ := Ts.upTo_in er
      have hk' : k < n := by omega
      have hj' : j < n := by omega
      have lk : ∀ {i}, i < n → ((cel n b).getD i []).length = n := fun {i} hi => by rw [cel_row hi, List.length_map, List.length_range]
      have at_ : ∀ {i l : Nat}, i < n → l < n → dIdx (Li ((cel n b).getD i [])) (.int (l : Int)) = some (.int (if b i l then 1 else 0)) := fun {i l} hi hl => by
        rw [idx_li (by rw [lk hi]; exact hl)]
        have := cel_cl (b := b) hi hl
        unfold Ta.cl at this
        rw [this]
      refine ⟨_, idx_rows (rs := cel n b) (i := k) (by rw [cel_len]; exact hk'), _, at_ hk' hj', _, idx_rows (rs := cel n b) (i := j) (by rw [cel_len]; exact hj'), _, at_ hj' hk', ?_⟩
      show br (decide ((if b k j then (1 : Int) else 0) > (if b j k then (1 : Int) else 0))) _ _
      refine br_of (fun hs => ?_) fun hs => ?_
      · have hs := of_decide_eq_true hs
        have hb2 : b k j = true ∧ b j k = false := by
          cases e1 : b k j <;> cases e2 : b j k <;> rw [e1, e2] at hs <;> simp at hs ⊢
        refine ⟨rfl, rfl, n, G, k, j, rfl, hk', hj', ?_⟩
        rw [decide_eq_true (st k j hk' hj' hb2.1 hb2.2)]
        refine br_ff rfl ?_
        exact ih2 _ ⟨j + 1, _, _, _, by rw [show (((j + 1 : Nat) : Int)) = (j : Int) + 1 by omega], rfl⟩
      · refine br_ff rfl ?_
        exact ih2 _ ⟨j + 1, _, _, _, by rw [show (((j + 1 : Nat) : Int)) = (j : Int) + 1 by omega], rfl⟩
    · rintro env ⟨j, s5, s6, s7, er, rfl⟩
      exact ih _ ⟨k + 1, _, _, _, _, by rw [show (((k + 1 : Nat) : Int)) = (k : Int) + 1 by omega], rfl⟩
  · rintro env ⟨k, s2, s5, s6, s7, er, rfl⟩
    exact q
theorem len_L_halved_right (ds : List D) (Q : D → Prop) (Ex : Xc → Prop) (h : F_L_halved_right ds Q Ex) : ds.length = 2 := by
  obtain ⟨n, b, rfl, _⟩ := h
  rfl
end Pr

namespace Pr
open PySem PySem.Spec PyProof.Rows L2 LamX Pd
open Ta (Tb lnD tbD wd lsum csum cl colI)
open Tt (Nl Tl Ll rws rwD trD Gd rwA)
open Qt (To)
open Eu (S bi Hf opn won more Og Ev)
structure Cl (n : Nat) (A : Nat → Addr) (R : Nat → List D) (cs : List (Addr × List D)) : Prop where
  inj : Tt.Inj n A
  mem : ∀ i, i < n → (A i, R i) ∈ cs
def upd1 {α : Type} (f : Nat → α) (i : Nat) (z : α) : Nat → α := fun j => if j = i then z else f j
theorem Cl.set {n : Nat} {A : Nat → Addr} {R : Nat → List D} {cs : List (Addr × List D)} (h : Cl n A R cs) {i : Nat} (hi : i < n) (ys : List D) : Cl n A (upd1 R i ys) (celSet cs (A i) ys) := by
  refine ⟨h.inj, fun j hj => ?_⟩
  unfold celSet upd1
  by_cases e : j = i
  · subst e
    rw [if_pos rfl]
    exact List.mem_map.mpr ⟨_, h.mem j hj, if_pos rfl⟩
  · rw [if_neg e]
    exact List.mem_map.mpr ⟨_, h.mem j hj, if_neg fun z => e (h.inj j i hj hi z)⟩
theorem Cl.add {n : Nat} {A : Nat → Addr} {R : Nat → List D} {cs : List (Addr × List D)} (h : Cl n A R cs) {i : Nat} (hi : i < n) {p : Addr} (hp : p ∉ cs.map (·.1)) (ys : List D) : Cl n (upd1 A i p) (upd1 R i ys) (cs ++ [(p, ys)]) := by
  have ne : ∀ {j}, j < n → A j ≠ p := fun {j} hj z => hp (List.mem_map.mpr ⟨_, h.mem j hj, z⟩)
  refine ⟨fun j k hj hk e => ?_, fun j hj => ?_⟩
  · unfold upd1 at e
    by_cases e1 : j = i
    · by_cases e2 : k = i
      · rw [e1, e2]
      · rw [if_pos e1, if_neg e2] at e
        exact absurd e.symm (ne hk)
    · by_cases e2 : k = i
      · rw [if_neg e1, if_pos e2] at e
        exact absurd e (ne hj)
      · rw [if_neg e1, if_neg e2] at e
        exact h.inj j k hj hk e
  · unfold upd1
    by_cases e : j = i
    · rw [if_pos e, if_pos e]
      exact List.mem_append_right _ (List.mem_singleton.mpr rfl)
    · rw [if_neg e, if_neg e]
      exact List.mem_append_left _ (h.mem j hj)
theorem cl_of {cs : List (Addr × List D)} (nd : (cs.map (·.1)).Nodup) : Cl cs.length (fun i => (cs.map (·.1)).getD i 0) (fun i => (cs.map (·.2)).getD i []) cs := by
  refine ⟨fun i j hi hj e => ?_, fun i hi => ?_⟩
  · have e : (cs.map (·.1)).getD i 0 = (cs.map (·.1)).getD j 0 := e
    rw [List.getD_eq_getElem?_getD, List.getD_eq_getElem?_getD, List.getElem?_eq_getElem (by rw [List.length_map]; exact hi), List.getElem?_eq_getElem (by rw [List.length_map]; exact hj)] at e
    exact (List.getElem_inj nd).mp e
  · have : ((cs.map (·.1)).getD i 0, (cs.map (·.2)).getD i []) = cs[i] := by
      rw [List.getD_eq_getElem?_getD, List.getD_eq_getElem?_getD, List.getElem?_map, List.getElem?_map, List.getElem?_eq_getElem hi]
      rfl
    rw [this]
    exact List.getElem_mem hi
theorem raw_rwA (cs : List (Addr × List D)) : (cs.map fun q => D.raw (.ref q.1)) = rwA cs.length fun i => (cs.map (·.1)).getD i 0 := by
  have := list_range (cs.map (·.1)) 0
  have e : (cs.map fun q => D.raw (.ref q.1)) = (cs.map (·.1)).map fun a => D.raw (.ref a) := by
    rw [List.map_map]
    rfl
  rw [e]
  conv => lhs; rw [this]
  rw [List.length_map, List.map_map]
  rfl
def frzL (n : Nat) (R : Nat → List D) : List D := (List.range n).map fun i => D.lst (R i)
theorem frz_of {n : Nat} {A : Nat → Addr} {R : Nat → List D} {cs : List (Addr × List D)} (h : Cl n A R cs) : ∃ qs : List (Addr × List D), rwA n A = qs.map (fun q => D.raw (.ref q.1)) ∧ (∀ q ∈ qs, q ∈ cs) ∧ (qs.map fun q => D.lst q.2) = frzL n R := by
  refine ⟨(List.range n).map fun i => (A i, R i), ?_, fun q hq => ?_, ?_⟩
  · rw [List.map_map]; rfl
  · obtain ⟨i, hi, rfl⟩ := List.mem_map.mp hq
    exact h.mem i (List.mem_range.mp hi)
  · rw [List.map_map]; rfl
theorem cut_but_last {α : Type} (xs : List α) : Pd.cutD xs none (some (-1)) = xs.dropLast := by
  unfold Pd.cutD
  rw [HT.sIx_none, Nat.sub_zero, List.drop_zero, List.dropLast_eq_take]
  congr 1
  unfold HT.sIx
  simp
  omega
end Pr

namespace Pr
open PySem PySem.Spec PyProof.Rows L2 LamX Pd
open Ta (Tb lnD tbD wd lsum csum cl colI)
open Tt (Nl Tl Ll rws rwD trD Gd rwA)
open Qt (To)
open Eu (S bi Hf opn won more Og Ev)
theorem ixN_nat {n i : Nat} (h : i < n) : ixN n (i : Int) = some i := by
  unfold ixN
  simp
  omega
theorem ixc {r : List Int} {j : Nat} (h : j < r.length) : dIdx (.lst (r.map D.int)) (.int (j : Int)) = some (.int (r.getD j 0)) := idx_li h
theorem pure_L_near_cells (ds : List D) (Q : D → Prop) (Ex : Xc → Prop) (h : F_L_near_cells ds Q Ex) : w_L_near_cells (dEnds Q Ex) (startE N_L_near_cells ds) := by
  obtain ⟨p, n, b, rfl, n1, n12, q⟩ := h
  have tb := cel_tb (b := b) n1 n12
  have eL : (((cel n b).map Li).length : Int) = (n : Int) := by rw [List.length_map, cel_len]
  show compW _ _ _ _ _ ((cel n b).map Li) [_, _, _, _, _, _, _] _
  refine compW_ind (fun rest env acc => ∃ (cs : List (Addr × List D)) (s5 c6 : Option Sl) (k : Nat), env = [some (.d (.box p)), some (.d (rowsD (cel n b))), none, none, none, s5, c6] ∧ rest = ((cel n b).drop k).map Li ∧ celsOf c6 = cs ∧ acc = cs.map (fun q => D.raw (.ref q.1)) ∧ (cs.map (·.1)).Nodup ∧ cs.map (·.2) = ((cel n b).take k).map (fun r => r.map D.int) ∧ k ≤ n) ?_ ?_ _ _ _ ⟨[], none, none, 0, rfl, rfl, rfl, rfl, List.nodup_nil, rfl, Nat.zero_le _⟩
  · rintro x rest env acc ⟨cs, s5, c6, k, rfl, er, hc, rfl, nd, h2, hk⟩ ih
    have lt : k < (cel n b).length := by
      have e := congrArg List.length er
      rw [List.length_map, List.length_drop] at e
      simp at e
      omega
    rw [List.drop_eq_getElem_cons lt, List.map_cons] at er
    obtain ⟨rfl, rfl⟩ := List.cons.inj er
    refine br_tt rfl fun a ha => ih _ _ ⟨cs ++ [(a, ((cel n b)[k]).map D.int)], _, _, k + 1, rfl, rfl, ?_, by rw [List.map_append]; rfl, ?_, ?_, by rw [cel_len] at lt; exact lt⟩
    · show celsOf c6 ++ [(a, ((cel n b)[k]).map D.int)] = _
      rw [hc]
    · have ha : a ∉ (celsOf c6).map (·.1) := ha
      rw [hc] at ha
      rw [List.map_append]
      refine List.nodup_append.mpr ⟨nd, by simp, fun x hx y hy z => ?_⟩
      have : y = a := by simpa using hy
      exact ha (by rw [← this, ← z]; exact hx)
    · rw [List.map_append, h2, List.take_succ, List.getElem?_eq_getElem lt, List.map_append]
      rfl
  · rintro env acc ⟨cs, s5, c6, k, rfl, er, hc, rfl, nd, h2, hk⟩
    have ek : k = n := by
      have e := congrArg List.length er
      rw [List.length_map, List.length_drop, cel_len] at e
      simp at e
      omega
    subst ek
    rw [show (cel k b).take k = cel k b by rw [List.take_of_length_le (by rw [cel_len]; exact Nat.le_refl _)]] at h2
    have lc : cs.length = k := by
      have := congrArg List.length h2
      rw [List.length_map, List.length_map, cel_len] at this
      exact this
    have C := cl_of nd
    rw [raw_rwA cs]
    rw [lc] at C ⊢
    rw [h2] at C
    obtain ⟨A, hA⟩ : ∃ A : Nat → Addr, A = fun i => (cs.map (·.1)).getD i 0 := ⟨_, rfl⟩
    rw [← hA] at C ⊢
    rw [← hc] at C
    clear hA h2 lc nd hc
    have rw_ : ∀ i, i < k → ((cel k b).map (fun r => r.map D.int)).getD i [] = ((cel k b).getD i []).map D.int := fun i hi => by
      rw [List.getD_eq_getElem?_getD, List.getElem?_map, at_row (by rw [cel_len]; exact hi)]
      rfl
    have C : Cl k A (fun i => ((cel k b).getD i []).map D.int) (celsOf c6) := ⟨C.inj, fun i hi => by have := C.mem i hi; rw [rw_ i hi] at this; exact this⟩
    have lk : ∀ {i}, i < k → ((cel k b).getD i []).length = k := fun {i} hi => by rw [cel_row hi, List.length_map, List.length_range]
    refine ⟨p, (k : Int), by rw [← eL], by omega, by omega, fun r1 r10 r11 => ?_⟩
    refine ⟨p, (k : Int), by rw [← eL], by omega, by omega, fun r2 r20 r21 => ?_⟩
    obtain ⟨i, rfl⟩ := Int.eq_ofNat_of_zero_le r10
    obtain ⟨j, rfl⟩ := Int.eq_ofNat_of_zero_le r20
    have hi : i < k := by omega
    have hj : j < k := by omega
    refine ⟨_, Tt.idx_rwA hi, _, C.mem i hi, _, C.mem i hi, _, ixc (by rw [lk hi]; exact hj), ?_⟩
    refine ⟨_, Tt.idx_rwA hi, _, C.mem i hi, _, C.mem i hi, j, ?_, ?_⟩
    · exact ixN_nat (by rw [List.length_map, lk hi]; exact hj)
    have C2 := C.set hi ((((cel k b).getD i []).map D.int).set j (.int (1 - ((cel k b).getD i []).getD j 0)))
    obtain ⟨rs', hrs⟩ : ∃ rs', rs' = (cel k b).set i (((cel k b).getD i []).set j (1 - ((cel k b).getD i []).getD j 0)) := ⟨_, rfl⟩
    have eF : frzL k (upd1 (fun i => ((cel k b).getD i []).map D.int) i ((((cel k b).getD i []).map D.int).set j (.int (1 - ((cel k b).getD i []).getD j 0)))) = rs'.map Li := by
      rw [hrs]
      unfold frzL
      refine List.ext_getElem? fun x => ?_
      by_cases hx : x < k
      · rw [List.getElem?_map, List.getElem?_range hx, List.getElem?_map]
        unfold upd1
        by_cases e : x = i
        · subst e
          rw [List.getElem?_set_self (by rw [cel_len]; exact hx)]
          show some (D.lst (if x = x then _ else _)) = some (Li _)
          rw [if_pos rfl]
          show some (D.lst _) = some (D.lst (List.map D.int (List.set _ _ _)))
          rw [List.map_set]
        · rw [List.getElem?_set_ne (fun z => e z.symm), at_row (by rw [cel_len]; exact hx)]
          show some (D.lst (if x = i then _ else _)) = some (Li _)
          rw [if_neg e]
      · rw [List.getElem?_eq_none (by rw [List.length_map, List.length_range]; omega), List.getElem?_eq_none (by rw [List.length_map, List.length_set, cel_len]; omega)]
    have tb' : Tb 1 rs' := by
      have bd := tb.ce
      have in01 : 0 ≤ 1 - ((cel k b).getD i []).getD j 0 ∧ 1 - ((cel k b).getD i []).getD j 0 ≤ 1 := by
        have := cel_cl (b := b) hi hj
        unfold Ta.cl at this
        rw [this]
        split <;> omega
      rw [hrs]
      refine ⟨by decide, by decide, by rw [List.length_set]; exact tb.l1, by rw [List.length_set]; exact tb.l12, ⟨k, n1, n12, fun r hr => ?_⟩, fun r hr x hx => ?_⟩
      · rcases List.mem_or_eq_of_mem_set hr with hr | rfl
        · obtain ⟨y, _, rfl⟩ := List.mem_map.mp hr
          rw [List.length_map, List.length_range]
        · rw [List.length_set, lk hi]
      · rcases List.mem_or_eq_of_mem_set hr with hr | rfl
        · exact bd r hr x hx
        · rcases List.mem_or_eq_of_mem_set hx with hx | rfl
          · exact bd _ (List.mem_of_getElem? (at_row (by rw [cel_len]; exact hi))) x hx
          · exact in01
    obtain ⟨qs, e1, e2, e3⟩ := frz_of C2
    refine ⟨rfl, ?_⟩
    show br (decide ((((cel k b).map Li).length : Int) = 1)) _ _
    rw [eL]
    refine br_of (fun h1 => ?_) fun h1 => ?_
    · refine ⟨qs, e1, e2, ?_⟩
      rw [e3, eF]
      exact q rs' tb'
    · have h1 := of_decide_eq_false h1
      dsimp only [sNil]
      refine ⟨qs, e1, e2, ?_⟩
      rw [e3, eF]
      refine comp_all (v := 5) (fun s => [some (.d (.box p)), some (.d (rowsD (cel k b))), some (.d (.lst (rs'.map Li))), some (.d (.int (i : Int))), some (.d (.int (j : Int))), s, none]) Li (fun r => Li r.dropLast) (cel k b) _ [] (fun _ _ => rfl) (fun r hr K ex kk => ?_) fun s => ?_
      · show K (.lst (Pd.cutD (r.map D.int) none (some (-1)))) _
        rw [cut_but_last, ← List.map_dropLast]
        exact kk
      refine ⟨Nat.le_of_ble_eq_true rfl, p, _, _, rfl, rfl, by simp, Nat.le_of_ble_eq_true rfl, fun y hy => ?_⟩
      rcases List.mem_cons.mp hy with rfl | hy
      · exact q rs' tb'
      rcases List.mem_cons.mp hy with rfl | hy
      · have e4 : D.lst ([] ++ (cel k b).map fun r => Li r.dropLast) = rowsD ((cel k b).map List.dropLast) := by
          rw [List.nil_append]
          show _ = D.lst (List.map _ (List.map _ _))
          rw [List.map_map]
          rfl
        rw [e4]
        refine q _ ⟨by decide, by decide, by rw [List.length_map]; exact tb.l1, by rw [List.length_map]; exact tb.l12, ⟨k - 1, by omega, by omega, fun r hr => ?_⟩, fun r hr x hx => ?_⟩
        · obtain ⟨y, hy, rfl⟩ := List.mem_map.mp hr
          obtain ⟨z, _, rfl⟩ := List.mem_map.mp hy
          rw [List.length_dropLast, List.length_map, List.length_range]
        · obtain ⟨y, hy, rfl⟩ := List.mem_map.mp hr
          exact tb.ce y hy x ((List.dropLast_sublist y).subset hx)
      · rw [List.mem_singleton.mp hy]
        show Q (.lst (Pd.cutD ((cel k b).map Li) (some ((1 : Nat) : Int)) none))
        rw [cut_from, ← List.map_drop]
        refine q _ ⟨by decide, by decide, by rw [List.length_drop, cel_len]; omega, by rw [List.length_drop, cel_len]; omega, ⟨k, n1, n12, fun r hr => ?_⟩, fun r hr x hx => tb.ce r ((List.drop_sublist 1 _).subset hr) x hx⟩
        obtain ⟨z, _, rfl⟩ := List.mem_map.mp ((List.drop_sublist 1 _).subset hr)
        rw [List.length_map, List.length_range]
theorem len_L_near_cells (ds : List D) (Q : D → Prop) (Ex : Xc → Prop) (h : F_L_near_cells ds Q Ex) : ds.length = 2 := by
  obtain ⟨p, n, b, rfl, _⟩ := h
  rfl
end Pr

namespace Pr
open PySem PySem.Spec PyProof.Rows L2 LamX Pd
open Ta (Tb lnD tbD wd lsum csum cl colI)
open Tt (Nl Tl Ll rws rwD trD Gd rwA)
open Qt (To)
open Eu (S bi Hf opn won more Og Ev)
theorem for_c {g : WG} {b : (PEnv → Prop) → PEnv → Prop} {fin : PEnv → Prop} {x : D} {xs : List D} {env : PEnv} (h : g x env fun env' => b (forW g b fin xs) env') : forW g b fin (x :: xs) env := h
theorem for_n {g : WG} {b : (PEnv → Prop) → PEnv → Prop} {fin : PEnv → Prop} {env : PEnv} (h : fin env) : forW g b fin [] env := h
def rowB (n : Nat) (b : Nat → Nat → Bool) (i : Nat) : List Int := (List.range n).map fun j => if b i j then 1 else 0
def rowD (n : Nat) (b : Nat → Nat → Bool) (i : Nat) : List D := (rowB n b i).map D.int
theorem rowB_len (n : Nat) (b : Nat → Nat → Bool) (i : Nat) : (rowB n b i).length = n := by
  unfold rowB
  rw [List.length_map, List.length_range]
theorem rowB_get {n : Nat} {b : Nat → Nat → Bool} {i j : Nat} (h : j < n) : (rowB n b i).getD j 0 = if b i j then 1 else 0 := by
  unfold rowB
  rw [List.getD_eq_getElem?_getD, List.getElem?_map, List.getElem?_range h]
  rfl
theorem row_set {n : Nat} {b : Nat → Nat → Bool} {i j : Nat} (z : Bool) : upd1 (rowD n b) i ((rowD n b i).set j (.int (if z then 1 else 0))) = rowD n (upb b i j z) := by
  funext x
  unfold upd1
  by_cases e : x = i
  · subst e
    rw [if_pos rfl]
    unfold rowD
    rw [← List.map_set]
    congr 1
    refine List.ext_getElem? fun y => ?_
    by_cases hy : y < n
    · by_cases e2 : y = j
      · subst e2
        rw [List.getElem?_set_self (by rw [rowB_len]; exact hy)]
        unfold rowB upb
        rw [List.getElem?_map, List.getElem?_range hy]
        show some _ = some (if (if x = x ∧ y = y then z else b x y) = true then (1 : Int) else 0)
        rw [if_pos (show x = x ∧ y = y from ⟨rfl, rfl⟩)]
      · rw [List.getElem?_set_ne (fun z => e2 z.symm)]
        unfold rowB upb
        rw [List.getElem?_map, List.getElem?_map, List.getElem?_range hy]
        show some (if b x y = true then (1 : Int) else 0) = some (if (if x = x ∧ y = j then z else b x y) = true then (1 : Int) else 0)
        rw [if_neg (show ¬ (x = x ∧ y = j) from fun z => e2 z.2)]
    · rw [List.getElem?_eq_none (by rw [List.length_set, rowB_len]; omega), List.getElem?_eq_none (by rw [rowB_len]; omega)]
  · rw [if_neg e]
    unfold rowD rowB upb
    congr 1
    refine List.map_congr_left fun y _ => ?_
    rw [if_neg (show ¬ (x = i ∧ y = j) from fun z => e z.1)]
theorem Cl.put {n : Nat} {A : Nat → Addr} {b : Nat → Nat → Bool} {cs : List (Addr × List D)} (h : Cl n A (rowD n b) cs) {i : Nat} (hi : i < n) (j : Nat) (z : Bool) : Cl n A (rowD n (upb b i j z)) (celSet cs (A i) ((rowD n b i).set j (.int (if z then 1 else 0)))) := by
  have := h.set hi ((rowD n b i).set j (.int (if z then 1 else 0)))
  rw [row_set] at this
  exact this
theorem frz_row (n : Nat) (b : Nat → Nat → Bool) : frzL n (rowD n b) = (cel n b).map Li := by
  unfold frzL cel
  rw [List.map_map]
  rfl
theorem any2 (a x y : Nat) : (!([D.int (x : Int), .int (y : Int)].any fun z => eqb z (.int (a : Int)))) = decide (a ≠ x ∧ a ≠ y) := by
  have e1 : decide ((x : Int) = (a : Int)) = decide (a = x) := decide_eq_decide.mpr (by omega)
  have e2 : decide ((y : Int) = (a : Int)) = decide (a = y) := decide_eq_decide.mpr (by omega)
  show (!(decide ((x : Int) = (a : Int)) || (decide ((y : Int) = (a : Int)) || false))) = _
  rw [e1, e2]
  by_cases h1 : a = x
  · rw [decide_eq_true h1, decide_eq_false (p := a ≠ x ∧ a ≠ y) fun z => z.1 h1]
    rfl
  · by_cases h2 : a = y
    · rw [decide_eq_false h1, decide_eq_true h2, decide_eq_false (p := a ≠ x ∧ a ≠ y) fun z => z.2 h2]
      rfl
    · rw [decide_eq_false h1, decide_eq_false h2, decide_eq_true ⟨h1, h2⟩]
      rfl
theorem row_ix {n : Nat} {b : Nat → Nat → Bool} {i j : Nat} (h : j < n) : dIdx (.lst (rowD n b i)) (.int (j : Int)) = some (.int (if b i j then 1 else 0)) := by
  have := ixc (r := rowB n b i) (j := j) (by rw [rowB_len]; exact h)
  rw [rowB_get h] at this
  exact this
theorem gt_bit {x y : Bool} (h : decide ((if x then (1 : Int) else 0) > (if y then (1 : Int) else 0)) = true) : x = true ∧ y = false := by
  cases x <;> cases y <;> simp at h ⊢
theorem one_x {n : Nat} {A : Nat → Addr} {b : Nat → Nat → Bool} {fin : PEnv → Prop} {P : (PEnv → Prop) → PEnds} {xs : List D} {e0 e2 e3 e4 e5 e6 e7 e8 e9 e10 e11 e12 c : Option Sl} {i j : Nat} {v : Int} (z : Bool) (hv : v = if z then 1 else 0) (hP : ∀ nx, (P nx).nx = nx) (hi : i < n) (hj : j < n) (C : Cl n A (rowD n b) (celsOf c))
    (h : ∀ c', Cl n A (rowD n (upb b i j z)) (celsOf c') → forW (gTupP (gsCons (gNm 10) (gsCons (gNm 11) (gsCons (gNm 12) gsNil))) 3) (fun nx => sSetC 13 (wIxOwn 1 (wVar 10)) (wVar 11) (wVar 12) (P nx)) fin xs [e0, some (.own (rwA n A)), e2, e3, e4, e5, e6, e7, e8, e9, some (.d (.int (i : Int))), some (.d (.int (j : Int))), some (.d (.int v)), c']) :
    forW (gTupP (gsCons (gNm 10) (gsCons (gNm 11) (gsCons (gNm 12) gsNil))) 3) (fun nx => sSetC 13 (wIxOwn 1 (wVar 10)) (wVar 11) (wVar 12) (P nx)) fin (.tup [.int (i : Int), .int (j : Int), .int v] :: xs) [e0, some (.own (rwA n A)), e2, e3, e4, e5, e6, e7, e8, e9, e10, e11, e12, c] := by
  subst hv
  have ln : (rowD n b i).length = n := by
    unfold rowD
    rw [List.length_map, rowB_len]
  refine for_c ⟨rfl, ?_⟩
  refine ⟨_, Tt.idx_rwA hi, _, C.mem _ hi, _, C.mem _ hi, j, ixN_nat (by rw [ln]; exact hj), ?_⟩
  rw [hP]
  exact h (some (.cels (celSet (celsOf c) (A i) ((rowD n b i).set j (.int (if z then 1 else 0)))))) (C.put hi j z)
theorem pure_L_exchanged (p : Addr) (cs : List (Addr × List D)) (ds : List D) (Q : D → Prop) (Ex : Xc → Prop) (nd : (cs.map (·.1)).Nodup) (h : F_L_exchanged ds (cs.map (·.2)) Q Ex) : w_L_exchanged (dEnds Q Ex) (startM N_L_exchanged ds p cs 13) := by
  obtain ⟨bx, n, b, rfl, hx, n1, n12, hb, q⟩ := h
  have lc : cs.length = n := by
    have := congrArg List.length hx
    rw [List.length_map, List.length_map, cel_len] at this
    exact this
  have C0 := cl_of nd
  have er := raw_rwA cs
  rw [lc] at C0 er
  obtain ⟨A, hA⟩ : ∃ A : Nat → Addr, A = fun i => (cs.map (·.1)).getD i 0 := ⟨_, rfl⟩
  rw [← hA] at C0 er
  have C : Cl n A (rowD n b) cs := ⟨C0.inj, fun i hi => by
    have := C0.mem i hi
    rw [hx] at this
    have e : ((cel n b).map (fun r => r.map D.int)).getD i [] = rowD n b i := by
      rw [List.getD_eq_getElem?_getD, List.getElem?_map, at_row (by rw [cel_len]; exact hi), cel_row hi]
      rfl
    rw [e] at this
    exact this⟩
  have eS : startM N_L_exchanged [.box bx] p cs 13 = [some (.d (.box bx)), some (.own (rwA n A)), none, none, none, none, none, none, none, none, none, none, none, some (.cels cs)] := by
    rw [← er]
    rfl
  rw [eS]
  clear eS er hA C0 hx
  have eL : ((rwA n A).length : Int) = (n : Int) := by rw [List.length_map, List.length_range]
  refine ⟨.inl (.inl (by decide)), ?_, ?_, ?_⟩
  · show 3 * ((rwA n A).length : Int) ≤ 1000000
    rw [eL]; omega
  · show -1000000 ≤ 3 * ((rwA n A).length : Int)
    rw [eL]; omega
  obtain ⟨m, hm, m0⟩ : ∃ m : Nat, (m : Int) = 3 * (n : Int) ∧ m ≤ 36 := ⟨3 * n, by omega, by omega⟩
  show forW _ _ _ (Pd.upTo 0 (3 * ((rwA n A).length : Int))) [_, _, some (.d (.int ((rwA n A).length : Int))), _, _, _, _, _, _, _, _, _, _, _]
  rw [eL, ← hm]
  refine forW_ind (fun rest env => ∃ (k : Nat) (b' : Nat → Nat → Bool) (s3 s4 s5 s6 s7 s8 s9 s10 s11 s12 c13 : Option Sl), rest = Pd.upTo (k : Int) (m : Int) ∧ Hf n b' ∧ Cl n A (rowD n b') (celsOf c13) ∧ env = [some (.d (.box bx)), some (.own (rwA n A)), some (.d (.int (n : Int))), s3, s4, s5, s6, s7, s8, s9, s10, s11, s12, c13]) ?_ ?_ _ _ ⟨0, b, none, none, none, none, none, none, none, none, none, none, some (.cels cs), rfl, hb, C, rfl⟩
  · rintro x rest env ⟨k, b', s3, s4, s5, s6, s7, s8, s9, s10, s11, s12, c13, er, hb', C, rfl⟩ ih
    obtain ⟨hk, rfl, rfl⟩ := Ts.upTo_in er
    refine ⟨bx, (n : Int), rfl, by omega, by omega, fun r1 a1 b1 => ⟨bx, (n : Int), rfl, by omega, by omega, fun r2 a2 b2 => ⟨bx, (n : Int), rfl, by omega, by omega, fun r3 a3 b3 => ⟨bx, (n : Int), rfl, by omega, by omega, fun r4 a4 b4 => ?_⟩⟩⟩⟩
    obtain ⟨one, rfl⟩ := Int.eq_ofNat_of_zero_le a1
    obtain ⟨oth, rfl⟩ := Int.eq_ofNat_of_zero_le a2
    obtain ⟨fst, rfl⟩ := Int.eq_ofNat_of_zero_le a3
    obtain ⟨lst, rfl⟩ := Int.eq_ofNat_of_zero_le a4
    have h1 : one < n := by omega
    have h2 : oth < n := by omega
    have h3 : fst < n := by omega
    have h4 : lst < n := by omega
    have go : ∀ (v5 v10 v11 v12 : Option Sl) (v4 : Option Sl), ∃ (k2 : Nat) (b2 : Nat → Nat → Bool) (s3 s4 s5 s6 s7 s8 s9 s10 s11 s12 c : Option Sl), Pd.upTo ((k : Int) + 1) (m : Int) = Pd.upTo (k2 : Int) (m : Int) ∧ Hf n b2 ∧ Cl n A (rowD n b2) (celsOf c) ∧ [some (.d (.box bx)), some (.own (rwA n A)), some (.d (.int (n : Int))), some (.d (.int (k : Int))), v4, v5, some (.d (.int (one : Int))), some (.d (.int (oth : Int))), some (.d (.int (fst : Int))), some (.d (.int (lst : Int))), v10, v11, v12, c13] = [some (.d (.box bx)), some (.own (rwA n A)), some (.d (.int (n : Int))), s3, s4, s5, s6, s7, s8, s9, s10, s11, s12, c] := fun v5 v10 v11 v12 v4 =>
      ⟨k + 1, b', _, _, _, _, _, _, _, _, _, _, _, by rw [show (((k + 1 : Nat) : Int)) = (k : Int) + 1 by omega], hb', C, rfl⟩
    refine ⟨Nat.le_of_ble_eq_true rfl, rfl, ?_⟩
    show br (!([D.int (fst : Int), .int (lst : Int)].any fun z => eqb z (.int (one : Int)))) _ _
    rw [any2]
    refine br_of (fun c1 => ?_) fun c1 => ?_
    case refine_2 =>
      refine ⟨_, Tt.idx_rwA h1, _, C.mem _ h1, _, C.mem _ h1, _, row_ix h3, _, Tt.idx_rwA h1, _, C.mem _ h1, _, C.mem _ h1, _, row_ix h4, br_ff rfl ?_⟩
      exact br_ff rfl (ih _ (go _ _ _ _ _))
    have c1 := of_decide_eq_true c1
    refine ⟨Nat.le_of_ble_eq_true rfl, rfl, ?_⟩
    refine ⟨_, Tt.idx_rwA h1, _, C.mem _ h1, _, C.mem _ h1, _, row_ix h3, _, Tt.idx_rwA h1, _, C.mem _ h1, _, C.mem _ h1, _, row_ix h4, ?_⟩
    show br (!([D.int (fst : Int), .int (lst : Int)].any fun z => eqb z (.int (oth : Int)))) _ _
    rw [any2]
    refine br_of (fun c2 => ?_) fun c2 => ?_
    case refine_2 => exact br_ff rfl (ih _ (go _ _ _ _ _))
    have c2 := of_decide_eq_true c2
    show br (decide ((if b' one fst = true then (1 : Int) else 0) > (if b' one lst = true then (1 : Int) else 0))) _ _
    refine br_of (fun c3 => ?_) fun c3 => ?_
    case refine_2 =>
      dsimp only [sNil]
      exact br_ff rfl (ih _ (go _ _ _ _ _))
    obtain ⟨b1, b2⟩ := gt_bit c3
    refine ⟨_, Tt.idx_rwA h2, _, C.mem _ h2, _, C.mem _ h2, _, row_ix h4, _, Tt.idx_rwA h2, _, C.mem _ h2, _, C.mem _ h2, _, row_ix h3, ?_⟩
    show br (decide ((if b' oth lst = true then (1 : Int) else 0) > (if b' oth fst = true then (1 : Int) else 0))) _ _
    refine br_of (fun c4 => ?_) fun c4 => ?_
    case refine_2 =>
      dsimp only [sNil]
      exact ih _ (go _ _ _ _ _)
    obtain ⟨b3, b4⟩ := gt_bit c4
    have o1 := c1
    have hx := hf_xch hb' h1 h2 h3 h4 c1.1 c1.2 c2.1 c2.2 b1 b2 b3 b4
    refine ⟨Nat.le_of_ble_eq_true rfl, Nat.le_of_ble_eq_true rfl, Nat.le_of_ble_eq_true rfl, Nat.le_of_ble_eq_true rfl, Nat.le_of_ble_eq_true rfl, ?_⟩
    show forW _ _ _ _ [_, _, _, _, _, _, _, _, _, _, _, _, _, _]
    refine one_x (i := one) (j := fst) false rfl (fun _ => rfl) h1 h3 C fun x1 C1 => ?_
    refine one_x (i := one) (j := lst) true rfl (fun _ => rfl) h1 h4 C1 fun x2 C2 => ?_
    refine one_x (i := oth) (j := lst) false rfl (fun _ => rfl) h2 h4 C2 fun x3 C3 => ?_
    refine one_x (i := oth) (j := fst) true rfl (fun _ => rfl) h2 h3 C3 fun x4 C4 => ?_
    refine for_n ?_
    exact ih _ ⟨k + 1, xch b' one oth fst lst, _, _, _, _, _, _, _, _, _, _, x4, by rw [show (((k + 1 : Nat) : Int)) = (k : Int) + 1 by omega], hx, C4, rfl⟩
  · rintro env ⟨k, b', s3, s4, s5, s6, s7, s8, s9, s10, s11, s12, c13, er, hb', C, rfl⟩
    obtain ⟨qs, e1, e2, e3⟩ := frz_of C
    refine ⟨qs, e1, e2, ?_⟩
    rw [e3, frz_row]
    exact q b' hb'
theorem len_L_exchanged (ds : List D) (xss : List (List D)) (Q : D → Prop) (Ex : Xc → Prop) (h : F_L_exchanged ds xss Q Ex) : ds.length + 1 = 2 := by
  obtain ⟨p, n, b, rfl, _⟩ := h
  rfl
end Pr

namespace Pr
open PySem PySem.Spec PyProof.Rows L2 LamX Pd
open Ta (Tb lnD tbD wd lsum csum cl colI)
open Tt (Nl Tl Ll rws rwD trD Gd rwA)
open Qt (To)
open Eu (S bi Hf opn won more Og Ev)
def hTest : W Bool := wThawT 2 8 (wTest (xBin fNe (xBin fIdx (wVar 2) (wVar 4)) (wLst (wSz wNil))))
def hBody : WS := sSeq (sSet 5 (wPopC 8 (wIxOwn 2 (wVar 4)))) (sSeq (sSetIx 2 (wVar 5) (wCell 8 (wThawC 2 8 (wComp (wItems (xBin fIdx (wVar 2) (wVar 5))) (gNm 7) (wTest (xBin fNe (wVar 7) (wVar 4))) (wVar 7) [7])))) (sSeq (sDrop (wAppend 3 (wTup (wCons (wVar 4) (wCons (wVar 5) wNil))))) (sSet 4 (wVar 5))))
def ld (left : Nat → List Nat) (i : Nat) : List D := (Nl (left i)).map D.int
abbrev eH (n : Nat) (A : Nat → Addr) (L : List (Nat × Nat)) (e0 s1 s4 s5 s6 s7 c8 : Option Sl) : PEnv := [e0, s1, some (.own (rwA n A)), some (.own (L.map prD)), s4, s5, s6, s7, c8]
theorem idx_frz {n : Nat} {R : Nat → List D} {i : Nat} (h : i < n) : dIdx (.lst (frzL n R)) (.int (i : Int)) = some (.lst (R i)) := by
  refine Ta.idx_items (x := .lst (frzL n R)) rfl (by omega) ?_
  unfold frzL
  rw [Int.toNat_natCast, List.getElem?_map, List.getElem?_range h]
  rfl
theorem plain_ld (left : Nat → List Nat) (i : Nat) : plain 60 (.lst (ld left i)) = true := plain_li (Nl (left i)) 58
theorem eqb_nil (left : Nat → List Nat) (i : Nat) : eqb (.lst (ld left i)) (.lst []) = decide (left i = []) := by
  show eqbs (ld left i) (([] : List Int).map D.int) = _
  unfold ld
  rw [eqbs_ints]
  refine decide_eq_decide.mpr ?_
  unfold Tt.Nl
  exact List.map_eq_nil_iff
theorem last_ld {left : Nat → List Nat} {a o : Nat} (h : (left a).getLast? = some o) : (ld left a).getLast? = some (.int (o : Int)) := by
  unfold ld
  rw [List.getLast?_map, List.getLast?_map, h]
  rfl
theorem ld_out (left : Nat → List Nat) (a o : Nat) : upd1 (upd1 (ld left) a (ld left a).dropLast) o (((left o).filter fun x => decide (x ≠ a)).map fun x : Nat => D.int (x : Int)) = ld (Eu.out left a o) := by
  funext v
  unfold upd1 ld Eu.out
  by_cases e : v = o
  · rw [if_pos e, if_pos e, List.map_map]
    rfl
  · rw [if_neg e, if_neg e]
    by_cases e2 : v = a
    · subst e2
      rw [if_pos rfl, if_pos rfl, ← List.map_dropLast, ← List.map_dropLast]
    · rw [if_neg e2, if_neg e2]
theorem rwA_set {n : Nat} {A : Nat → Addr} {o : Nat} (h : o < n) (p : Addr) : (rwA n A).set o (.raw (.ref p)) = rwA n (upd1 A o p) := by
  refine List.ext_getElem? fun x => ?_
  by_cases hx : x < n
  · by_cases e : x = o
    · subst e
      rw [List.getElem?_set_self (by rw [List.length_map, List.length_range]; exact hx), List.getElem?_map, List.getElem?_range hx]
      show some _ = some (D.raw (.ref (upd1 A x p x)))
      unfold upd1
      rw [if_pos rfl]
    · rw [List.getElem?_set_ne (fun z => e z.symm), List.getElem?_map, List.getElem?_map, List.getElem?_range hx]
      show some _ = some (D.raw (.ref (upd1 A o p x)))
      unfold upd1
      rw [if_neg e]
  · rw [List.getElem?_eq_none (by rw [List.length_set, List.length_map, List.length_range]; omega), List.getElem?_eq_none (by rw [List.length_map, List.length_range]; omega)]
theorem h_test {n : Nat} {A : Nat → Addr} {left : Nat → List Nat} {L : List (Nat × Nat)} {e0 s1 s5 s6 s7 c8 : Option Sl} {a : Nat} {K : Bool → PEnv → Prop} {ex : Xc → Prop} (ha : a < n) (C : Cl n A (ld left) (celsOf c8))
    (k : K (!decide (left a = [])) (eH n A L e0 s1 (some (.d (.int (a : Int)))) s5 s6 s7 c8)) : hTest (eH n A L e0 s1 (some (.d (.int (a : Int)))) s5 s6 s7 c8) K ex := by
  obtain ⟨qs, e1, e2, e3⟩ := frz_of C
  refine ⟨qs, e1, e2, ?_⟩
  rw [e3]
  refine ⟨_, idx_frz ha, Nat.le_of_ble_eq_true rfl, ?_, ?_⟩
  · rw [plain_ld]
    rfl
  · rw [eqb_nil]
    exact k
theorem h_body {n : Nat} {A : Nat → Addr} {left : Nat → List Nat} {L : List (Nat × Nat)} {e0 s1 s5 s6 s7 c8 : Option Sl} {a o : Nat} {pe : PEnds} (ha : a < n) (ho : o < n) (ne : a ≠ o) (lo : (left a).getLast? = some o) (C : Cl n A (ld left) (celsOf c8)) (hL : L.length < 1000)
    (k : ∀ A' s7' c', Cl n A' (ld (Eu.out left a o)) (celsOf c') → pe.nx (eH n A' (L ++ [(a, o)]) e0 s1 (some (.d (.int (o : Int)))) (some (.d (.int (o : Int)))) s6 s7' c')) : hBody pe (eH n A L e0 s1 (some (.d (.int (a : Int)))) s5 s6 s7 c8) := by
  refine ⟨_, Tt.idx_rwA ha, _, C.mem _ ha, _, last_ld lo, ?_⟩
  have C1 := C.set ha (ld left a).dropLast
  obtain ⟨c1, hc1⟩ : ∃ c1 : Option Sl, c1 = some (.cels (celSet (celsOf c8) (A a) (ld left a).dropLast)) := ⟨_, rfl⟩
  have C1 : Cl n A (upd1 (ld left) a (ld left a).dropLast) (celsOf c1) := by
    rw [hc1]
    exact C1
  try dsimp only
  show sSeq (sSetIx _ _ _) _ pe [e0, s1, some (.own (rwA n A)), some (.own (L.map prD)), some (.d (.int (a : Int))), some (.d (.int (o : Int))), s6, s7, some (.cels (celSet (celsOf c8) (A a) (ld left a).dropLast))]
  rw [← hc1]
  clear hc1
  obtain ⟨qs, e1, e2, e3⟩ := frz_of C1
  refine ⟨qs, e1, e2, ?_⟩
  rw [e3]
  refine ⟨_, idx_frz ho, ?_⟩
  have eo : upd1 (ld left) a (ld left a).dropLast o = (left o).map fun x : Nat => D.int (x : Int) := by
    unfold upd1 ld
    rw [if_neg fun z => ne z.symm, List.map_map]
    rfl
  rw [eo]
  refine comp_enc (v := 7) (fun s => [hid e0, hid s1, some (.d (.lst (frzL n (upd1 (ld left) a (ld left a).dropLast)))), none, some (.d (.int (a : Int))), some (.d (.int (o : Int))), hid s6, s, hid c1]) (fun x : Nat => D.int (x : Int)) (fun x => .int (x : Int)) (fun x => decide (x ≠ a)) (left o) (hid s7) [] (fun _ _ => rfl) (fun x hx K ex kk => ?_) (fun x hx _ K ex kk => kk) fun s => ?_
  · refine ⟨rfl, ?_⟩
    have : decide (x ≠ a) = !(decide ((x : Int) = (a : Int))) := by
      have : decide ((x : Int) = (a : Int)) = decide (x = a) := decide_eq_decide.mpr (by omega)
      rw [this]
      by_cases z : x = a
      · rw [decide_eq_true z, decide_eq_false (fun y => y z)]; rfl
      · rw [decide_eq_false z, decide_eq_true z]; rfl
    rw [this] at kk
    exact kk
  rw [List.nil_append]
  refine ⟨fun d hd => ?_, fun p hp => ?_⟩
  · obtain ⟨x, _, rfl⟩ := List.mem_map.mp hd
    rfl
  have hp : p ∉ (celsOf c1).map (·.1) := hp
  have C2 := C1.add ho hp (((left o).filter fun x => decide (x ≠ a)).map fun x : Nat => D.int (x : Int))
  rw [ld_out] at C2
  refine ⟨o, ixN_nat (by rw [List.length_map, List.length_range]; exact ho), ?_⟩
  try dsimp only
  show sSeq (sDrop _) _ pe [e0, s1, some (.own ((rwA n A).set o (.raw (.ref p)))), some (.own (L.map prD)), some (.d (.int (a : Int))), some (.d (.int (o : Int))), s6, s7, some (.cels (celsOf c1 ++ [(p, ((left o).filter fun x => decide (x ≠ a)).map fun x : Nat => D.int (x : Int))]))]
  rw [rwA_set ho p]
  refine ⟨Nat.le_of_ble_eq_true rfl, by rw [List.length_map]; omega, ?_⟩
  have eL : L.map prD ++ [D.tup [.int (a : Int), .int (o : Int)]] = (L ++ [(a, o)]).map prD := by
    rw [List.map_append]
    rfl
  show pe.nx [e0, s1, some (.own (rwA n (upd1 A o p))), some (.own (L.map prD ++ [D.tup [.int (a : Int), .int (o : Int)]])), some (.d (.int (o : Int))), some (.d (.int (o : Int))), s6, s7, some (.cels (celsOf c1 ++ [(p, ((left o).filter fun x => decide (x ≠ a)).map fun x : Nat => D.int (x : Int))]))]
  rw [eL]
  exact k _ s7 (some (.cels (celsOf c1 ++ [(p, ((left o).filter fun x => decide (x ≠ a)).map fun x : Nat => D.int (x : Int))]))) C2
end Pr

namespace Pr
open PySem PySem.Spec PyProof.Rows L2 LamX Pd
open Ta (Tb lnD tbD wd lsum csum cl colI)
open Tt (Nl Tl Ll rws rwD trD Gd rwA)
open Qt (To)
open Eu (S bi Hf opn won more Og Ev St out)
theorem out_nil {n : Nat} {op left : Nat → List Nat} {L : List (Nat × Nat)} {s a o : Nat} (h : St n op left L s a) (lo : (left a).getLast? = some o) {v : Nat} (hv : left v = []) : out left a o v = [] := by
  have := Eu.out_len h lo v
  rw [hv, List.length_nil] at this
  exact List.eq_nil_of_length_eq_zero (by omega)
theorem out_sum {n : Nat} {op left : Nat → List Nat} {L : List (Nat × Nat)} {s a o : Nat} (h : St n op left L s a) (lo : (left a).getLast? = some o) : S n (fun v => (out left a o v).length) + 2 = S n (fun v => (left v).length) := by
  have hm : o ∈ left a := List.mem_of_getLast? lo
  obtain ⟨la, lo', ne⟩ := h.lt a o hm
  rw [← Eu.S_congr (f := fun v => (out left a o v).length + ((if v = a then 1 else 0) + (if v = o then 1 else 0))) fun v _ => Eu.out_len h lo v]
  rw [Eu.S_add, Eu.S_add, Eu.S_one la, Eu.S_one lo']
theorem inner {n : Nat} {op left : Nat → List Nat} {L : List (Nat × Nat)} {A : Nat → Addr} {e0 s1 s5 s6 s7 c8 : Option Sl} {s : Nat} {pe : PEnds} {T : Nat} (hT : T ≤ 200) (hs : s < n) (h : St n op left L s s) (C : Cl n A (ld left) (celsOf c8)) (hL : 2 * L.length + S n (fun v => (left v).length) = T)
    (done : ∀ A' left' L' s5 s6 s7 c8 s4, St n op left' L' s s → left' s = [] → (∀ v, left v = [] → left' v = []) → Cl n A' (ld left') (celsOf c8) → 2 * L'.length + S n (fun v => (left' v).length) = T → pe.nx (eH n A' L' e0 s1 s4 s5 s6 s7 c8)) :
    sWhile hTest hBody pe (eH n A L e0 s1 (some (.d (.int (s : Int)))) s5 s6 s7 c8) := by
  refine ⟨fun m env => ∃ (A : Nat → Addr) (left' : Nat → List Nat) (L : List (Nat × Nat)) (a : Nat) (s5 s6 s7 c8 : Option Sl), env = eH n A L e0 s1 (some (.d (.int (a : Int)))) s5 s6 s7 c8 ∧ St n op left' L s a ∧ a < n ∧ Cl n A (ld left') (celsOf c8) ∧ m = S n (fun v => (left' v).length) ∧ 2 * L.length + S n (fun v => (left' v).length) = T ∧ ∀ v, left v = [] → left' v = [],
    ⟨_, A, left, L, s, s5, s6, s7, c8, rfl, h, hs, C, rfl, hL, fun v hv => hv⟩, ?_⟩
  rintro m env ⟨A, left', L, a, s5, s6, s7, c8, rfl, h, ha, C, rfl, hL, hz⟩
  refine h_test ha C (br_no (br_of (fun he => ?_) fun he => ?_))
  · have he := of_decide_eq_true he
    have e := h.back he
    subst e
    exact done A left' L s5 s6 s7 c8 _ h he hz C hL
  · have he := of_decide_eq_false he
    obtain ⟨o, lo⟩ : ∃ o, (left' a).getLast? = some o := by
      cases e : (left' a).getLast? with
      | none => exact absurd (List.getLast?_eq_none_iff.mp e) he
      | some o => exact ⟨o, rfl⟩
    have hm : o ∈ left' a := List.mem_of_getLast? lo
    obtain ⟨la, ho, ne⟩ := h.lt a o hm
    refine h_body ha ho ne lo C (by omega) fun A' s7' c' C' => ?_
    refine ⟨_, Eu.out_lt h lo, A', out left' a o, L ++ [(a, o)], o, _, _, _, c', rfl, h.step lo, ho, C', rfl, ?_, fun v hv => out_nil h lo (hz v hv)⟩
    have := out_sum h lo
    rw [List.length_append]
    simp only [List.length_cons, List.length_nil]
    omega
theorem len_og {n : Nat} {op : Nat → List Nat} (h : Og n op) (v : Nat) : (op v).length ≤ n := by
  have := Zs.few_of (M := List.range n) (h.nd v) fun x hx => List.mem_range.mpr (h.lt v x hx).2.1
  rw [List.length_range] at this
  exact this
theorem sum_og {n : Nat} {op : Nat → List Nat} (h : Og n op) (hn : n ≤ 12) : S n (fun v => (op v).length) ≤ 200 := by
  have h1 : S n (fun v => (op v).length) ≤ S n (fun _ => 12) := Eu.S_le fun j _ => by have := len_og h j; omega
  have h2 : ∀ m, S m (fun _ => 12) = 12 * m := fun m => by
    induction m with
    | zero => rfl
    | succ m ih => rw [Eu.S_succ, ih]; omega
  rw [h2] at h1
  omega
theorem pure_halves_of (ds : List D) (Q : D → Prop) (Ex : Xc → Prop) (h : F_halves_of ds Q Ex) : w_halves_of (dEnds Q Ex) (startE N_halves_of ds) := by
  obtain ⟨n, op, rfl, n12, og, q⟩ := h
  show compW _ _ _ _ _ ((List.range n).map fun i => Ll (op i)) [_, _, _, _, _, _, _, _, _] _
  obtain ⟨e0, h0⟩ : ∃ e0 : Option Sl, e0 = some (.d (.lst ((List.range n).map fun i => Ll (op i)))) := ⟨_, rfl⟩
  refine compW_ind (fun rest env acc => ∃ (cs : List (Addr × List D)) (s6 c8 : Option Sl) (k : Nat), env = [some (.d (.lst ((List.range n).map fun i => Ll (op i)))), none, none, none, none, none, s6, none, c8] ∧ rest = ((List.range n).drop k).map (fun i => Ll (op i)) ∧ celsOf c8 = cs ∧ acc = cs.map (fun q => D.raw (.ref q.1)) ∧ (cs.map (·.1)).Nodup ∧ cs.map (·.2) = ((List.range n).take k).map (ld op) ∧ k ≤ n) ?_ ?_ _ _ _ ⟨[], none, none, 0, rfl, rfl, rfl, rfl, List.nodup_nil, rfl, Nat.zero_le _⟩
  · rintro x rest env acc ⟨cs, s6, c8, k, rfl, er, hc, rfl, nd, h2, hk⟩ ih
    have lt : k < n := by
      have e := congrArg List.length er
      rw [List.length_map, List.length_drop, List.length_range] at e
      simp at e
      omega
    rw [List.drop_eq_getElem_cons (by rw [List.length_range]; exact lt), List.getElem_range, List.map_cons] at er
    obtain ⟨rfl, rfl⟩ := List.cons.inj er
    refine br_tt rfl fun a ha => ih _ _ ⟨cs ++ [(a, ld op k)], _, _, k + 1, rfl, rfl, ?_, by rw [List.map_append]; rfl, ?_, ?_, lt⟩
    · show celsOf c8 ++ [(a, ld op k)] = _
      rw [hc]
    · have ha : a ∉ (celsOf c8).map (·.1) := ha
      rw [hc] at ha
      rw [List.map_append]
      refine List.nodup_append.mpr ⟨nd, by simp, fun x hx y hy z => ?_⟩
      have : y = a := by simpa using hy
      exact ha (by rw [← this, ← z]; exact hx)
    · rw [List.map_append, h2, List.take_succ, List.getElem?_range lt, List.map_append]
      rfl
  · rintro env acc ⟨cs, s6, c8, k, rfl, er, hc, rfl, nd, h2, hk⟩
    have ek : k = n := by
      have e := congrArg List.length er
      rw [List.length_map, List.length_drop, List.length_range] at e
      simp at e
      omega
    subst ek
    rw [List.take_of_length_le (by rw [List.length_range]; exact Nat.le_refl _)] at h2
    have lc : cs.length = k := by
      have := congrArg List.length h2
      rw [List.length_map, List.length_map, List.length_range] at this
      exact this
    have C := cl_of nd
    rw [raw_rwA cs]
    rw [lc] at C ⊢
    rw [h2] at C
    obtain ⟨A, hA⟩ : ∃ A : Nat → Addr, A = fun i => (cs.map (·.1)).getD i 0 := ⟨_, rfl⟩
    rw [← hA] at C ⊢
    rw [← hc] at C
    clear hA h2 lc nd hc
    have C : Cl k A (ld op) (celsOf c8) := ⟨C.inj, fun i hi => by
      have := C.mem i hi
      have e : ((List.range k).map (ld op)).getD i [] = ld op i := by
        rw [List.getD_eq_getElem?_getD, List.getElem?_map, List.getElem?_range hi]
        rfl
      rw [e] at this
      exact this⟩
    refine ⟨Nat.le_of_ble_eq_true rfl, ?_⟩
    have eL : ((rwA k A).length : Int) = (k : Int) := by rw [List.length_map, List.length_range]
    refine ⟨?_, ?_, ?_⟩
    · show ((rwA k A).length : Int) ≤ 1000000
      omega
    · show (-1000000 : Int) ≤ ((rwA k A).length : Int)
      omega
    show forW _ _ _ (Pd.upTo 0 ((rwA k A).length : Int)) [_, _, _, _, _, _, _, _, _]
    rw [eL]
    have hT := sum_og og n12
    refine forW_ind (fun rest env => ∃ (t : Nat) (A : Nat → Addr) (left : Nat → List Nat) (L : List (Nat × Nat)) (s1 s4 s5 s6 s7 c8 : Option Sl), rest = Pd.upTo (t : Int) (k : Int) ∧ t ≤ k ∧ env = eH k A L (some (.d (.lst ((List.range k).map fun i => Ll (op i))))) s1 s4 s5 s6 s7 c8 ∧ (∀ u, St k op left L u u) ∧ (∀ v, v < t → left v = []) ∧ Cl k A (ld left) (celsOf c8) ∧ 2 * L.length + S k (fun v => (left v).length) = S k (fun v => (op v).length)) ?_ ?_ _ _
      ⟨0, A, op, [], none, none, none, _, none, c8, rfl, Nat.zero_le _, rfl, fun u => og.start u, fun v hv => absurd hv (Nat.not_lt_zero v), C, by rw [List.length_nil]; omega⟩
    · rintro x rest env ⟨t, A, left, L, s1, s4, s5, s6, s7, c8, er, ht, rfl, hst, hz, C, hL⟩ ih
      obtain ⟨hk', rfl, rfl⟩ := Ts.upTo_in er
      have htk : t < k := by omega
      show sWhile hTest hBody _ (eH k A L _ (some (.d (.int (t : Int)))) (some (.d (.int (t : Int)))) s5 s6 s7 c8)
      refine inner hT htk (hst t) C hL fun A' left' L' s5 s6 s7 c8 s4 h he hz2 C' hL' => ?_
      refine ih _ ⟨t + 1, A', left', L', _, s4, s5, s6, s7, c8, by rw [show (((t + 1 : Nat) : Int)) = (t : Int) + 1 by omega], htk, rfl, fun u => h.next u, fun v hv => ?_, C', hL'⟩
      by_cases e : v = t
      · rw [e]; exact he
      · exact hz2 v (hz v (by omega))
    · rintro env ⟨t, A, left, L, s1, s4, s5, s6, s7, c8, er, ht, rfl, hst, hz, C, hL⟩
      have := Ts.upTo_out er
      have et : t = k := by omega
      subst et
      exact q L ((hst 0).done hz) (by omega)
theorem len_halves_of (ds : List D) (Q : D → Prop) (Ex : Xc → Prop) (h : F_halves_of ds Q Ex) : ds.length = 1 := by
  obtain ⟨n, op, rfl, _⟩ := h
  rfl
end Pr

namespace Pr
open PySem PySem.Spec PyProof.Rows L2 LamX Pd
open Ta (Tb lnD tbD wd lsum csum cl colI)
open Tt (Nl Tl Ll rws rwD trD Gd rwA)
open Qt (To)
open Eu (S bi Hf opn won more Og Ev St out)
theorem idx_ln {n : Nat} {b : Nat → Nat → Bool} {i : Nat} (h : i < n) : dIdx (lnD (cel n b)) (.int (i : Int)) = some (Ti (rowB n b i)) := by
  refine Ta.idx_items (x := lnD (cel n b)) rfl (by omega) ?_
  unfold cel
  rw [Int.toNat_natCast, List.map_map, List.getElem?_map, List.getElem?_range h]
  rfl
theorem idx_rb {n : Nat} {b : Nat → Nat → Bool} {i j : Nat} (h : j < n) : dIdx (Ti (rowB n b i)) (.int (j : Int)) = some (.int (if b i j then 1 else 0)) := by
  refine Ta.idx_items (x := Ti (rowB n b i)) rfl (by omega) ?_
  unfold rowB
  rw [Int.toNat_natCast, List.map_map, List.getElem?_map, List.getElem?_range h]
  rfl
theorem bit_eq (x y : Bool) : decide ((if x then (1 : Int) else 0) = (if y then (1 : Int) else 0)) = (x == y) := by cases x <;> cases y <;> rfl
theorem bit_1 (x : Bool) : decide ((if x then (1 : Int) else 0) = 1) = x := by cases x <;> rfl
theorem bit_0 (x : Bool) : decide ((if x then (1 : Int) else 0) = 0) = !x := by cases x <;> rfl
theorem pick_comp {n : Nat} {p : Nat → Bool} {t : W Bool} {Q : List D → PEnv → Prop} (E : Option Sl → PEnv) (s0 : Option Sl) {u : Nat} (hE : ∀ s x, (wipeE (E s) [u]).set u (some (.d x)) = E (some (.d x))) (hu : ∀ x, gt (E (some (.d x))) u = some (.d x))
    (ht : ∀ j, j < n → ∀ (K : Bool → PEnv → Prop) ex, K (p j) (E (some (.d (.int (j : Int))))) → t (E (some (.d (.int (j : Int))))) K ex) (q : ∀ s, Q ((Nl ((List.range n).filter p)).map D.int) (E s)) :
    compW (gNm u) t (wVar u) [u] Q ((List.range n).map fun j : Nat => D.int (j : Int)) (E s0) [] := by
  refine comp_enc E (fun j : Nat => D.int (j : Int)) (fun j => .int (j : Int)) p (List.range n) s0 [] hE (fun j hj K ex k => ht j (List.mem_range.mp hj) K ex k) (fun j hj _ K ex k => ?_) fun s => ?_
  · unfold wVar
    rw [hu]
    exact k
  · have := q s
    rw [List.map_map] at this
    rw [List.nil_append]
    exact this
theorem more_app (L : List (Nat × Nat)) (w l v : Nat) : more (L ++ [(w, l)]) v = if v = w then more L v ++ [l] else more L v := by
  unfold Eu.more
  rw [List.filter_append, List.map_append]
  by_cases e : v = w
  · subst e
    rw [if_pos rfl, List.filter_cons_of_pos (by simp)]
    rfl
  · rw [if_neg e, List.filter_cons_of_neg (by simpa using fun z : w = v => e z.symm)]
    simp
theorem more_le (L : List (Nat × Nat)) (v : Nat) : (more L v).length ≤ L.length := by
  unfold Eu.more
  rw [List.length_map]
  exact List.length_filter_le _ _
theorem won_le (n : Nat) (b : Nat → Nat → Bool) (i : Nat) : (won n b i).length ≤ n := by
  unfold Eu.won
  have := List.length_filter_le (fun j => b i j && !b j i) (List.range n)
  rw [List.length_range] at this
  exact this
theorem ld_app (G : Nat → List Nat) (w l : Nat) : upd1 (ld G) w (ld G w ++ [.int (l : Int)]) = ld (fun v => if v = w then G v ++ [l] else G v) := by
  funext v
  unfold upd1 ld
  by_cases e : v = w
  · subst e
    rw [if_pos rfl]
    show _ = List.map _ (Nl (if v = v then G v ++ [l] else G v))
    rw [if_pos rfl]
    unfold Tt.Nl
    rw [List.map_append, List.map_append]
    rfl
  · rw [if_neg e]
    show _ = List.map _ (Nl (if v = w then G v ++ [l] else G v))
    rw [if_neg e]
theorem pure_halved (ds : List D) (Q : D → Prop) (Ex : Xc → Prop) (h : F_halved ds Q Ex) : w_halved (dEnds Q Ex) (startE N_halved ds) := by
  obtain ⟨c, rs, rfl, t, h⟩ := h
  refine br_ff rfl ?_
  dsimp only [sNil]
  refine ⟨c, rs, rfl, t, ?_⟩
  rcases h with ⟨n, b, rfl, rfl, hb, n1, n12, q⟩ | ⟨hn, x⟩
  case inr =>
    rw [hn]
    exact br_tt rfl x
  rw [(half_cel n1).mpr hb]
  refine br_ff rfl ?_
  dsimp only [sNil]
  have eL : (((cel n b).map Ti).length : Int) = (n : Int) := by rw [List.length_map, cel_len]
  refine ⟨rfl, _, rfl, rfl, _, rfl, ?_⟩
  refine ⟨⟨show (-1000000 : Int) ≤ 0 by decide, show (0 : Int) ≤ 1000000 by decide, show (-1000000 : Int) ≤ (((cel n b).map Ti).length : Int) by omega, show (((cel n b).map Ti).length : Int) ≤ 1000000 by omega⟩, Nat.le_of_ble_eq_true rfl, rfl, ?_⟩
  have eu : Pd.upTo 0 (((cel n b).map Ti).length : Int) = (List.range n).map fun (i : Nat) => D.int (i : Int) := by rw [eL, Tt.upTo_nat]
  show compW _ _ _ _ _ (Pd.upTo 0 (((cel n b).map Ti).length : Int)) [_, _, _, _, some (.d (.lst (Pd.upTo 0 (((cel n b).map Ti).length : Int)))), _, _, _, _, _, _] _
  rw [eu]
  -- the pairs with whom nothing is settled
  refine comp_all (v := 7) (fun s => [some (.d (tbD 1 (cel n b))), none, none, some (.d (lnD (cel n b))), some (.d (.lst ((List.range n).map fun i : Nat => D.int (i : Int)))), none, none, s, none, none, none]) (fun i : Nat => D.int (i : Int)) (fun i => Ll (opn n b i)) (List.range n) none [] (fun _ _ => rfl) (fun i hi K ex k => ?_) fun s => ?_
  · have hi := List.mem_range.mp hi
    have eo : opn n b i = (List.range n).filter fun j => decide (j ≠ i) && (b i j == b j i) := if_pos hi
    rw [eo] at k
    refine pick_comp (u := 8) (fun s => [some (.d (tbD 1 (cel n b))), none, none, some (.d (lnD (cel n b))), some (.d (.lst ((List.range n).map fun i : Nat => D.int (i : Int)))), none, none, some (.d (.int (i : Int))), s, none, none]) none (fun _ _ => rfl) (fun _ => rfl) (fun j hj K ex k => ?_) fun s => k
    refine ⟨rfl, ?_⟩
    show br (!(decide ((j : Int) = (i : Int)))) _ _
    refine br_no (br_of (fun h1 => ?_) fun h1 => ?_)
    · have h1 := of_decide_eq_true h1
      rw [decide_eq_false (show ¬ (j ≠ i) from fun z => z (by omega))] at k
      exact k
    · have h1 := of_decide_eq_false h1
      rw [decide_eq_true (show j ≠ i from fun z => h1 (by omega)), Bool.true_and, ← bit_eq] at k
      exact ⟨_, idx_ln hi, _, idx_rb hj, _, idx_ln hj, _, idx_rb hi, rfl, k⟩
  rw [List.nil_append]
  show compW _ _ _ _ _ ((List.range n).map fun i : Nat => D.int (i : Int)) [_, some (.d (.lst ((List.range n).map fun i => Ll (opn n b i)))), _, _, _, _, _, _, _, _, _] _
  refine compW_ind (fun rest env acc => ∃ (cs : List (Addr × List D)) (s7 s8 c10 : Option Sl) (k : Nat), env = [some (.d (tbD 1 (cel n b))), some (.d (.lst ((List.range n).map fun i => Ll (opn n b i)))), none, some (.d (lnD (cel n b))), some (.d (.lst ((List.range n).map fun i : Nat => D.int (i : Int)))), none, none, s7, s8, none, c10] ∧ rest = ((List.range n).drop k).map (fun i : Nat => D.int (i : Int)) ∧ celsOf c10 = cs ∧ acc = cs.map (fun q => D.raw (.ref q.1)) ∧ (cs.map (·.1)).Nodup ∧ cs.map (·.2) = ((List.range n).take k).map (ld (won n b)) ∧ k ≤ n) ?_ ?_ _ _ _ ⟨[], _, _, _, 0, rfl, rfl, rfl, rfl, List.nodup_nil, rfl, Nat.zero_le _⟩
  · rintro x rest env acc ⟨cs, s7, s8, c10, k, rfl, er, hc, rfl, nd, h2, hk⟩ ih
    have lt : k < n := by
      have e := congrArg List.length er
      rw [List.length_map, List.length_drop, List.length_range] at e
      simp at e
      omega
    rw [List.drop_eq_getElem_cons (by rw [List.length_range]; exact lt), List.getElem_range, List.map_cons] at er
    obtain ⟨rfl, rfl⟩ := List.cons.inj er
    refine br_tt rfl ?_
    refine pick_comp (u := 8) (p := fun j => b k j && !b j k) (fun s => [some (.d (tbD 1 (cel n b))), some (.d (.lst ((List.range n).map fun i => Ll (opn n b i)))), none, some (.d (lnD (cel n b))), some (.d (.lst ((List.range n).map fun i : Nat => D.int (i : Int)))), none, none, some (.d (.int (k : Int))), s, none, c10]) s8 (fun _ _ => rfl) (fun _ => rfl) (fun j hj K ex kk => ?_) fun s => ?_
    · refine ⟨_, idx_ln lt, _, idx_rb hj, rfl, ?_⟩
      show br (decide ((if b k j then (1 : Int) else 0) = 1)) _ _
      rw [bit_1]
      refine br_of (fun h1 => ?_) fun h1 => ?_
      · rw [h1, Bool.true_and, ← bit_0] at kk
        exact ⟨_, idx_ln hj, _, idx_rb lt, rfl, kk⟩
      · rw [h1, Bool.false_and] at kk
        exact kk
    · intro a ha
      refine ih _ _ ⟨cs ++ [(a, ld (won n b) k)], _, _, _, k + 1, rfl, rfl, ?_, by rw [List.map_append]; rfl, ?_, ?_, lt⟩
      · show celsOf c10 ++ [(a, _)] = _
        rw [hc]
        rfl
      · have ha : a ∉ (celsOf c10).map (·.1) := ha
        rw [hc] at ha
        rw [List.map_append]
        refine List.nodup_append.mpr ⟨nd, by simp, fun x hx y hy z => ?_⟩
        have : y = a := by simpa using hy
        exact ha (by rw [← this, ← z]; exact hx)
      · rw [List.map_append, h2, List.take_succ, List.getElem?_range lt, List.map_append]
        rfl
  · rintro env acc ⟨cs, s7, s8, c10, k, rfl, er, hc, rfl, nd, h2, hk⟩
    have ek : k = n := by
      have e := congrArg List.length er
      rw [List.length_map, List.length_drop, List.length_range] at e
      simp at e
      omega
    subst ek
    rw [List.take_of_length_le (by rw [List.length_range]; exact Nat.le_refl _)] at h2
    have lc : cs.length = k := by
      have := congrArg List.length h2
      rw [List.length_map, List.length_map, List.length_range] at this
      exact this
    have C := cl_of nd
    rw [raw_rwA cs]
    rw [lc] at C ⊢
    rw [h2] at C
    obtain ⟨A, hA⟩ : ∃ A : Nat → Addr, A = fun i => (cs.map (·.1)).getD i 0 := ⟨_, rfl⟩
    rw [← hA] at C ⊢
    rw [← hc] at C
    clear hA h2 lc nd hc
    have C : Cl k A (ld (won k b)) (celsOf c10) := ⟨C.inj, fun i hi => by
      have := C.mem i hi
      have e : ((List.range k).map (ld (won k b))).getD i [] = ld (won k b) i := by
        rw [List.getD_eq_getElem?_getD, List.getElem?_map, List.getElem?_range hi]
        rfl
      rw [e] at this
      exact this⟩
    refine ⟨k, opn k b, rfl, n12, Eu.opn_og hb, fun L ev lL => ?_⟩
    show forW _ _ _ (L.map prD) [_, _, _, _, _, _, _, _, _, _, _]
    refine forW_ind (fun rest env => ∃ (L1 L2 : List (Nat × Nat)) (s5 s6 s7 s8 c10 : Option Sl), rest = L2.map prD ∧ L = L1 ++ L2 ∧ env = [some (.d (tbD 1 (cel k b))), some (.d (.lst ((List.range k).map fun i => Ll (opn k b i)))), some (.own (rwA k A)), some (.d (lnD (cel k b))), some (.d (.lst ((List.range k).map fun i : Nat => D.int (i : Int)))), s5, s6, s7, s8, none, c10] ∧ Cl k A (ld fun i => won k b i ++ more L1 i) (celsOf c10)) ?_ ?_ _ _ ⟨[], L, _, _, _, _, _, rfl, rfl, rfl, ?_⟩
    · rintro x rest env ⟨L1, L2, s5, s6, s7, s8, c10, er, eL2, rfl, C⟩ ih
      cases L2 with
      | nil => cases er
      | cons p L2 =>
        obtain ⟨w, l⟩ := p
        rw [List.map_cons] at er
        obtain ⟨rfl, rfl⟩ := List.cons.inj er
        have wl := ev.lb (w, l) (by rw [eL2]; exact List.mem_append_right _ List.mem_cons_self)
        have len1 : L1.length ≤ 1000 := by
          have := congrArg List.length eL2
          rw [List.length_append] at this
          omega
        refine ⟨rfl, ?_⟩
        refine ⟨_, Tt.idx_rwA wl.1, _, C.mem _ wl.1, _, C.mem _ wl.1, ?_, ?_⟩
        · unfold ld
          rw [List.length_map, List.length_map, List.length_append]
          have h1 := won_le k b w
          have h2 := more_le L1 w
          show (won k b w).length + (more L1 w).length < 1000000
          omega
        · have C2 := C.set wl.1 (ld (fun i => won k b i ++ more L1 i) w ++ [.int (l : Int)])
          rw [ld_app] at C2
          have e : (fun v => if v = w then (won k b v ++ more L1 v) ++ [l] else won k b v ++ more L1 v) = fun v => won k b v ++ more (L1 ++ [(w, l)]) v := by
            funext v
            rw [more_app]
            by_cases z : v = w
            · rw [if_pos z, if_pos z, List.append_assoc]
            · rw [if_neg z, if_neg z]
          rw [e] at C2
          exact ih _ ⟨L1 ++ [(w, l)], L2, _, _, _, _, _, rfl, by rw [List.append_assoc]; exact eL2, rfl, C2⟩
    · rintro env ⟨L1, L2, s5, s6, s7, s8, c10, er, eL2, rfl, C⟩
      have : L2 = [] := List.map_eq_nil_iff.mp er.symm
      subst this
      rw [List.append_nil] at eL2
      subst eL2
      show compW _ _ _ _ _ (List.map (fun i => D.raw (.ref (A i))) (List.range k)) [_, _, _, _, _, _, _, _, _, _, _] _
      refine comp_all (v := 9) (fun x => [some (.d (tbD 1 (cel k b))), some (.d (.lst ((List.range k).map fun i => Ll (opn k b i)))), some (.d (.lst (rwA k A))), some (.d (lnD (cel k b))), some (.d (.lst ((List.range k).map fun i : Nat => D.int (i : Int)))), s5, s6, s7, s8, x, c10]) (fun i => D.raw (.ref (A i))) (fun i => Tl (Qh.isort Tt.leN (won k b i ++ more L i))) (List.range k) none [] (fun _ _ => rfl) (fun i hi K ex kk => ?_) fun z => ?_
      · have hi := List.mem_range.mp hi
        refine ⟨(Nl (won k b i ++ more L i)).map D.int, C.mem i hi, _, rfl, srt_ints _, ?_⟩
        rw [ms_up, Tt.up_cast]
        exact kk
      · have o := out_of n1 n12 hb ev
        exact ⟨k, _, rfl, o.1, q _ o⟩
    · have : (fun i => won k b i ++ more [] i) = won k b := by
        funext i
        exact List.append_nil _
      rw [this]
      exact C
theorem len_halved (ds : List D) (Q : D → Prop) (Ex : Xc → Prop) (h : F_halved ds Q Ex) : ds.length = 1 := by
  obtain ⟨c, rs, rfl, _⟩ := h
  rfl
end Pr

namespace Pr
open PySem PySem.Spec PyProof.Rows L2 LamX Pd
open Ta (Tb lnD tbD wd lsum csum cl colI)
open Tt (Nl Tl Ll rws rwD trD Gd rwA)
open Qt (To)
open Eu (S bi Hf opn won more Og Ev St out)
theorem tup_rows {v : Nat} {Q : List D → PEnv → Prop} (rs : List (List Int)) (E : Option Sl → PEnv) (s0 : Option Sl) (hE : ∀ s x, (wipeE (E s) [v]).set v (some (.d x)) = E (some (.d x))) (hu : ∀ x, gt (E (some (.d x))) v = some (.d x)) (q : ∀ s, Q (rs.map Ti) (E s)) :
    compW (gNm v) (W.ret true) (w1 dTuple (wVar v)) [v] Q (rs.map Li) (E s0) [] := by
  refine comp_all E Li Ti rs s0 [] hE (fun r _ K ex k => ?_) fun s => ?_
  · refine Te.w1_var (hu _) rfl k
  · rw [List.nil_append]
    exact q s
theorem pure_L_right (ds : List D) (Q : D → Prop) (Ex : Xc → Prop) (h : F_L_right ds Q Ex) : w_L_right (dEnds Q Ex) (startE N_L_right ds) := by
  obtain ⟨p, rfl, q⟩ := h
  refine ⟨p, 8, rfl, by decide, by decide, fun r r0 r1 => ?_⟩
  obtain ⟨m, rfl⟩ := Int.eq_ofNat_of_zero_le r0
  obtain ⟨n, hn⟩ : ∃ n : Nat, n = m + 1 := ⟨_, rfl⟩
  have n1 : 1 ≤ n := by omega
  have n8 : n ≤ 8 := by omega
  have en : (1 : Int) + (m : Int) = (n : Int) := by omega
  refine ⟨p, n, by rw [← en], n1, by omega, fun G to asc => ?_⟩
  have g : Gd n G := ⟨n1, by omega, to, asc⟩
  have hf := hf_tour g
  have n12 : n ≤ 12 := by omega
  have tb := cel_tb (b := bG G) n1 n12
  clear en hn r0 r1
  refine ⟨n, G, rfl, g, ?_⟩
  refine ⟨n, G, rfl, g, n12, ?_⟩
  try dsimp only
  show sSeq (sIf _ _ _) _ _ [_, some (.d (rsL n G)), some (.d (trD n G)), some (.d (tbD 1 (cel n (bG G)))), _, _, _, _, _, _, _, _]
  refine ⟨n, G, rfl, n1, by omega, ?_⟩
  show compW _ _ _ _ _ ((cel n (bG G)).map Li) [_, _, _, _, _, _, _, _, _, _, _, _] _
  refine tup_rows (v := 11) (cel n (bG G)) (fun s => [some (.d (.box p)), some (.d (rsL n G)), some (.d (trD n G)), some (.d (tbD 1 (cel n (bG G)))), none, none, none, none, none, none, none, s]) _ (fun _ _ => rfl) (fun _ => rfl) fun s => ?_
  refine ⟨1, cel n (bG G), rfl, tb, ?_⟩
  refine ⟨rfl, rfl, 1, cel n (bG G), rfl, tb, true, rfl, br_ff rfl ?_⟩
  dsimp only [sNil]
  show sSeq (sIf _ _ _) _ _ [_, some (.d (rsL n G)), some (.d (trD n G)), some (.d (tbD 1 (cel n (bG G)))), _, _, _, _, _, _, _, _]
  refine ⟨1, cel n (bG G), rfl, tb, .inl ⟨n, bG G, rfl, rfl, hf, n1, n12, fun G' o => ?_⟩⟩
  rw [out_same g o]
  refine ⟨rfl, rfl, n, G, rfl, g, true, rfl, br_ff rfl ?_⟩
  dsimp only [sNil]
  show sSeq (sSet _ _) _ _ [_, some (.d (rsL n G)), some (.d (trD n G)), some (.d (tbD 1 (cel n (bG G)))), _, _, _, _, _, _, _, _]
  refine ⟨n, G, rfl, n1, by omega, ?_⟩
  refine ⟨p, n, bG G, rfl, rfl, n1, n12, hf, fun b' hb' => ?_⟩
  have tb' := cel_tb (b := b') n1 n12
  try dsimp only
  show sSeq (sSet _ _) _ _ [_, some (.d (rsL n G)), some (.d (trD n G)), some (.d (tbD 1 (cel n (bG G)))), some (.d (rowsD (cel n b'))), _, _, _, _, _, _, _]
  show compW _ _ _ _ _ ((cel n b').map Li) [_, _, _, _, _, _, _, _, _, _, _, _] _
  refine tup_rows (v := 11) (cel n b') (fun s => [some (.d (.box p)), some (.d (rsL n G)), some (.d (trD n G)), some (.d (tbD 1 (cel n (bG G)))), some (.d (rowsD (cel n b'))), none, none, none, none, none, none, s]) _ (fun _ _ => rfl) (fun _ => rfl) fun s => ?_
  refine ⟨1, cel n b', rfl, tb', ?_⟩
  try dsimp only
  show sSeq (sIf _ _ _) _ _ [_, some (.d (rsL n G)), some (.d (trD n G)), some (.d (tbD 1 (cel n (bG G)))), some (.d (rowsD (cel n b'))), some (.d (tbD 1 (cel n b'))), _, _, _, _, _, _]
  refine ⟨_, rfl, .inl ⟨1, cel n b', rfl, tb', ?_⟩⟩
  rw [(half_cel n1).mpr hb']
  refine br_ff rfl ⟨n, b', rfl, hb', n1, n12, br_ff rfl ?_⟩
  dsimp only [sNil]
  show sSeq (sParM3 _ _ _ _) _ _ [_, some (.d (rsL n G)), some (.d (trD n G)), some (.d (tbD 1 (cel n (bG G)))), some (.d (rowsD (cel n b'))), some (.d (tbD 1 (cel n b'))), _, _, _, _, _, _]
  refine ⟨p, n, b', rfl, n1, n12, fun rs tr => ?_⟩
  refine ⟨Nat.le_of_ble_eq_true rfl, p, _, _, rfl, rfl, by simp, Nat.le_of_ble_eq_true rfl, fun y hy => ?_⟩
  obtain ⟨c, rfl, hc⟩ : ∃ c : Int, y = .int c ∧ 1 ≤ c ∧ c ≤ 2 := by
    simp only [List.mem_cons, List.not_mem_nil, or_false] at hy
    rcases hy with rfl | rfl | rfl
    · exact ⟨1, rfl, by decide, by decide⟩
    · exact ⟨1, rfl, by decide, by decide⟩
    · exact ⟨2, rfl, by decide, by decide⟩
  clear hy
  refine ⟨p, rfl, fun z hz => ?_⟩
  have tc : Tb c rs := ⟨hc.1, by omega, tr.l1, tr.l12, tr.w, fun r hr x hx => by have := tr.ce r hr x hx; omega⟩
  try dsimp only
  show compW _ _ _ _ _ (rs.map Li) [_, _, _, _, _, _, _, _, _, _, _, _] _
  refine tup_rows (v := 11) rs (fun s => [some (.d (.box p)), some (.d (rsL n G)), some (.d (trD n G)), some (.d (tbD 1 (cel n (bG G)))), some (.d (rowsD (cel n b'))), some (.d (tbD 1 (cel n b'))), none, none, some (.d (rowsD rs)), some (.d (.int c)), some (.d z), s]) _ (fun _ _ => rfl) (fun _ => rfl) fun s => ?_
  refine ⟨c, rs, rfl, tc, ?_⟩
  refine ⟨c, rs, rfl, tr, ?_⟩
  try dsimp only
  show sSeq (sIf _ _ _) _ _ [_, some (.d (rsL n G)), some (.d (trD n G)), _, _, _, some (.d (tbD c rs)), some (.d (.bl (halfB c rs))), some (.d (rowsD rs)), some (.d (.int c)), some (.d z), _]
  refine ⟨_, rfl, .inl ⟨c, rs, rfl, tc, rfl, ?_⟩⟩
  have eq_bl : ∀ x : Bool, (!(eqb (.bl x) (.bl x))) = false := fun x => by cases x <;> rfl
  rw [eq_bl]
  refine br_ff rfl ?_
  have last : ∀ {pe : PEnds} {e0 e1 e3 e4 e5 e6 e7 e8 e9 e11 : Option Sl}, pe.rt (.bl true) → sRet (wAnd (wBin dIs (wCall F_is_half_table (wCons (wVar 10) wNil)) (W.ret (.bl false))) (wBin dIs (wCall F_is_half_table (wCons (wVar 2) wNil)) (W.ret (.bl false)))) pe [e0, e1, some (.d (trD n G)), e3, e4, e5, e6, e7, e8, e9, some (.d z), e11] := fun h => by
    refine ⟨z, rfl, .inr ⟨.inl hz, br_tt rfl ?_⟩⟩
    exact ⟨_, rfl, .inr ⟨.inr ⟨n, G, rfl⟩, h⟩⟩
  refine ⟨c, rs, rfl, tc, ?_⟩
  cases hh : halfB c rs with
  | true =>
    obtain ⟨n2, b2, e1, e2, h2, m1, m2⟩ := half_of tc hh
    refine .inl ⟨n2, b2, e1, e2, h2, m1, m2, fun G2 o2 => ?_⟩
    refine ⟨rfl, br_ff rfl ?_⟩
    dsimp only [sNil]
    exact last q
  | false =>
    refine .inr ⟨rfl, List.mem_cons_self, .inl ⟨rfl, ?_⟩⟩
    refine ⟨rfl, br_ff rfl ?_⟩
    dsimp only [sNil]
    exact last q
theorem len_L_right (ds : List D) (Q : D → Prop) (Ex : Xc → Prop) (h : F_L_right ds Q Ex) : ds.length = 1 := by
  obtain ⟨p, rfl, _⟩ := h
  rfl
theorem upTo_cons {i m : Int} (h : i < m) : Pd.upTo i m = .int i :: Pd.upTo (i + 1) m := by
  unfold Pd.upTo
  have e : (m - i).toNat = (m - (i + 1)).toNat + 1 := by omega
  rw [e, List.range_succ_eq_map, List.map_cons, List.map_map]
  congr 1
  · simp
  · refine List.map_congr_left fun x _ => ?_
    show D.int (i + ((x + 1 : Nat) : Int)) = D.int (i + 1 + (x : Int))
    congr 1
    omega
theorem upTo_nil {i m : Int} (h : m ≤ i) : Pd.upTo i m = [] := by
  unfold Pd.upTo
  rw [show (m - i).toNat = 0 by omega]
  rfl
def b4 (i j : Nat) : Bool := [[false, true, false, true], [true, false, true, false], [false, false, false, true], [false, false, true, false]].getD i [] |>.getD j false
theorem cel4 : cel 4 b4 = [[0, 1, 0, 1], [1, 0, 1, 0], [0, 0, 0, 1], [0, 0, 1, 0]] := by decide
theorem hf4 : Hf 4 b4 := (half_cel (by decide)).mp (by rw [cel4]; decide)
theorem scores4 {G : Nat → List Nat} (h : ∀ i, i < 4 → (G i).length = S 4 fun j => bi (b4 i j)) : Tt.Sv 4 (fun i => (G i).length) = [2, 2, 1, 1] := by
  rw [cel_sums h, cel4]
  rfl
theorem pure_law (ds : List D) (Q : D → Prop) (Ex : Xc → Prop) (h : F_law ds Q Ex) : w_law (dEnds Q Ex) (startE N_law ds) := by
  obtain ⟨ns, rfl, hl, q⟩ := h
  have hm : ∃ m : Int, m = (if (if (ns.length : Int) < 4 then (ns.length : Int) else 4) > 1 then (if (ns.length : Int) < 4 then (ns.length : Int) else 4) else 1) ∧ 0 ≤ m ∧ m ≤ 4 := ⟨_, rfl, by split <;> split <;> omega, by split <;> split <;> omega⟩
  obtain ⟨m, em, m0, m1⟩ := hm
  refine ⟨?_, ?_, ?_⟩
  · show (if (if (ns.length : Int) < 4 then (ns.length : Int) else 4) > 1 then (if (ns.length : Int) < 4 then (ns.length : Int) else 4) else 1) ≤ 1000000
    omega
  · show -1000000 ≤ (if (if (ns.length : Int) < 4 then (ns.length : Int) else 4) > 1 then (if (ns.length : Int) < 4 then (ns.length : Int) else 4) else 1)
    omega
  show forW _ _ _ (Pd.upTo 0 (if (if (ns.length : Int) < 4 then (ns.length : Int) else 4) > 1 then (if (ns.length : Int) < 4 then (ns.length : Int) else 4) else 1)) _
  rw [← em]
  refine forW_ind (fun rest env => ∃ (i : Int) (j1 j4 : Option Sl), 0 ≤ i ∧ i ≤ m ∧ rest = Pd.upTo i m ∧ env = [some (.d (.scr ns)), j1, none, none, j4, none]) ?_ ?_ _ _ ⟨0, none, none, Int.le_refl _, m0, rfl, rfl⟩
  · rintro x rest env ⟨i, j1, j4, i0, im, er, rfl⟩ ih
    by_cases hlt : i < m
    · rw [upTo_cons hlt] at er
      obtain ⟨rfl, rfl⟩ := List.cons.inj er
      refine ⟨ns, i, rfl, i0, by omega, by omega, fun p => ?_⟩
      refine ⟨p, rfl, br_ff rfl ?_⟩
      refine ⟨p, rfl, br_ff rfl ?_⟩
      exact ih _ ⟨i + 1, _, _, by omega, by omega, rfl, rfl⟩
    · rw [upTo_nil (by omega)] at er
      cases er
  · rintro env ⟨i, j1, j4, i0, im, er, rfl⟩
    clear er
    repeat (first | refine ⟨Nat.le_of_ble_eq_true rfl, ?_⟩)
    have e4 : D.lst [.lst [.int 0, .int 1, .int 0, .int 1], .lst [.int 1, .int 0, .int 1, .int 0], .lst [.int 0, .int 0, .int 0, .int 1], .lst [.int 0, .int 0, .int 1, .int 0]] = rowsD (cel 4 b4) := by rw [cel4]; rfl
    have tb := cel_tb (b := b4) (n := 4) (by decide) (by decide)
    try dsimp only
    show sSeq (sSet _ _) _ _ [_, _, some (.d (.lst [.lst [.int 0, .int 1, .int 0, .int 1], .lst [.int 1, .int 0, .int 1, .int 0], .lst [.int 0, .int 0, .int 0, .int 1], .lst [.int 0, .int 0, .int 1, .int 0]])), _, _, _]
    rw [e4]
    clear e4
    have hh : halfB 1 (cel 4 b4) = true := (half_cel (by decide)).mpr hf4
    obtain ⟨C, hC⟩ : ∃ C, C = cel 4 b4 := ⟨_, rfl⟩
    rw [← hC] at tb hh ⊢
    show compW _ _ _ _ _ (C.map Li) [_, _, _, _, _, _] _
    refine tup_rows (v := 5) C (fun s => [some (.d (.scr ns)), j1, some (.d (rowsD C)), none, j4, s]) _ (fun _ _ => rfl) (fun _ => rfl) fun s => ?_
    refine ⟨1, C, rfl, tb, ?_⟩
    try dsimp only
    show sSeq (sIf _ _ _) _ _ [_, _, some (.d (rowsD C)), some (.d (tbD 1 C)), _, _]
    refine ⟨_, rfl, .inl ⟨1, C, rfl, tb, ?_⟩⟩
    rw [hh]
    refine br_ff rfl ⟨4, b4, by rw [hC], hf4, by decide, by decide, br_ff rfl ?_⟩
    dsimp only [sNil]
    show sRet _ _ [_, _, some (.d (rowsD C)), some (.d (tbD 1 C)), _, _]
    refine ⟨1, C, rfl, tb, .inl ⟨4, b4, rfl, hC, hf4, by decide, by decide, fun G o => ?_⟩⟩
    have sc := scores4 o.2.1
    refine ⟨rfl, 4, G, rfl, by decide, ?_⟩
    rw [sc]
    refine ⟨by decide, rfl, ?_⟩
    exact q
theorem len_law (ds : List D) (Q : D → Prop) (Ex : Xc → Prop) (h : F_law ds Q Ex) : ds.length = 1 := by
  obtain ⟨ns, rfl, _⟩ := h
  rfl
theorem law_true (ns : List Int) (h : ns.length ≤ 63) : F_law [.scr ns] (fun v => v = .bl true) (fun _ => False) := ⟨ns, rfl, h, rfl⟩
end Pr

namespace Pr
open PySem PySem.Spec PyProof.Rows L2 LamX Pd Hd
structure Fx (P : Program) (w : World) (K : PySem.W.Frag) (mg : Str → Option Value) (base : Heap) (T : List (Addr × Str)) : Prop where
  d_is_integer : HasD K mg "is_integer" s_is_integer
  d_is_from : HasD K mg "is_from" s_is_from
  d_is_cap : HasD K mg "is_cap" s_is_cap
  d_is_line : HasD K mg "is_line" s_is_line
  d_are_lines : HasD K mg "are_lines" s_are_lines
  d_L_numbers : HasD K mg "_law_numbers" s_L_numbers
  d_is_half : HasD K mg "is_half" s_is_half
  d_is_half_table : HasD K mg "is_half_table" s_is_half_table
  d_is_ascending : HasD K mg "is_ascending" s_is_ascending
  d_are_indices : HasD K mg "are_indices" s_are_indices
  d_are_results : HasD K mg "are_results" s_are_results
  d_halves_of : HasD K mg "halves_of" s_halves_of
  d_halved : HasD K mg "halved" s_halved
  d_require_index : HasD K mg "require_index" s_require_index
  d_L_halved_right : HasD K mg "_law_halved_right" s_L_halved_right
  d_L_cast : HasD K mg "_law_cast" s_L_cast
  d_L_any_wins : HasD K mg "_law_any_wins" s_L_any_wins
  d_L_played : HasD K mg "_law_played" s_L_played
  d_require_tournament : HasD K mg "require_tournament" s_require_tournament
  d_table_of_tournament : HasD K mg "table_of_tournament" s_table_of_tournament
  d_L_exchanged : HasD K mg "_law_exchanged" s_L_exchanged
  d_L_is_half : HasD K mg "_law_is_half" s_L_is_half
  d_L_lines : HasD K mg "_law_lines" s_L_lines
  d_L_pick : HasD K mg "_law_pick" s_L_pick
  d_L_near_cells : HasD K mg "_law_near_cells" s_L_near_cells
  d_L_odd_one : HasD K mg "_law_odd_one" s_L_odd_one
  d_L_right : HasD K mg "_law_right" s_L_right
  d_law : HasD K mg "law" s_law
  d_L_met : HasD K mg "_law_met" s_L_met
  cl_Table : Cls K (He.ga K "Table")
  cl_Tournament : Cls K (He.ga K "Tournament")
  cm_Table_of : CmF K "Table" "of"
  cm_Tournament_of : CmF K "Tournament" "of"
  emq_L_met : ExmQ K cls_L_met hs_L_met
  gl_InvalidOperation : mg "InvalidOperation" = some (.ref (He.ga K "InvalidOperation"))
  gl_Table : mg "Table" = some (.ref (He.ga K "Table"))
  gl_Tournament : mg "Tournament" = some (.ref (He.ga K "Tournament"))
  gx_L_right : mg "_law_right" = some (.ref (He.ga K "_law_right"))
  gx_law : mg "law" = some (.ref (He.ga K "law"))
  i_Table : HasA K (He.ma K (He.ga K "Table") "__init__") "__init__" "Table.__init__" s_Table_init
  i_Tournament : HasA K (He.ma K (He.ga K "Tournament") "__init__") "__init__" "Tournament.__init__" s_Tournament_init
  ic_Table : IsC K "Table" ["Table", "Tournament"]
  ic_Tournament : IsC K "Tournament" ["Table", "Tournament"]
  im_Table_eq : HasA K (He.ma K (He.ga K "Table") "__eq__") "__eq__" "Table.__eq__" s_Table_eq
  im_Tournament_beats : HasA K (He.ma K (He.ga K "Tournament") "beats") "beats" "Tournament.beats" s_Tournament_beats
  im_Tournament_eq : HasA K (He.ma K (He.ga K "Tournament") "__eq__") "__eq__" "Tournament.__eq__" s_Tournament_eq
  lm_L_right : LamT K mg base T "_law_right"
  mk_Table : Mk K (He.ga K "Table") (He.ma K (He.ga K "Table") "__init__")
  mk_Tournament : Mk K (He.ga K "Tournament") (He.ma K (He.ga K "Tournament") "__init__")
  mt_Table_eq : Meth K (He.ga K "Table") "__eq__" (He.ma K (He.ga K "Table") "__eq__")
  mt_Tournament_beats : Meth K (He.ga K "Tournament") "beats" (He.ma K (He.ga K "Tournament") "beats")
  mt_Tournament_eq : Meth K (He.ga K "Tournament") "__eq__" (He.ma K (He.ga K "Tournament") "__eq__")
  na_Table_own_cap : NoAttr K (He.ga K "Table") "own_cap"
  na_Table_own_lines : NoAttr K (He.ga K "Table") "own_lines"
  na_Tournament_own_beaten : NoAttr K (He.ga K "Tournament") "own_beaten"
  ne_Table : NeO K "Table"
  ne_Tournament : NeO K "Tournament"
  p_Table_column_sums : PropOf K (He.ga K "Table") "column_sums" (He.ma K (He.ga K "Table") "column_sums") (He5.wf K (He.ga K "Table") "property" "column_sums")
  p_Table_line_sums : PropOf K (He.ga K "Table") "line_sums" (He.ma K (He.ga K "Table") "line_sums") (He5.wf K (He.ga K "Table") "property" "line_sums")
  p_Tournament_scores : PropOf K (He.ga K "Tournament") "scores" (He.ma K (He.ga K "Tournament") "scores") (He5.wf K (He.ga K "Tournament") "property" "scores")
  q_Table_column_sums : HasA K (He5.wf K (He.ga K "Table") "property" "column_sums") "column_sums" "Table.column_sums" s_Table_column_sums
  q_Table_line_sums : HasA K (He5.wf K (He.ga K "Table") "property" "line_sums") "line_sums" "Table.line_sums" s_Table_line_sums
  q_Tournament_scores : HasA K (He5.wf K (He.ga K "Tournament") "property" "scores") "scores" "Tournament.scores" s_Tournament_scores
  qc_Table_of : HasA K (He5.wf K (He.ga K "Table") "classmethod" "of") "of" "Table.of" s_Table_of
  qc_Tournament_of : HasA K (He5.wf K (He.ga K "Tournament") "classmethod" "of") "of" "Tournament.of" s_Tournament_of
  xc_InvalidOperation : ExcC K mg "InvalidOperation"
  xc_InvalidTable : ExcC K mg "InvalidTable"
  xc_InvalidTournament : ExcC K mg "InvalidTournament"
  xv_InvalidNumber : ExV P K mg "InvalidNumber" "value"
  xv_TooMany : ExVI P K mg "TooMany" "limit"
  b_abs : mg "abs" = none
  b_all : mg "all" = none
  b_any : mg "any" = none
  b_bool : mg "bool" = none
  b_enumerate : mg "enumerate" = none
  b_int : mg "int" = none
  b_isinstance : mg "isinstance" = none
  b_len : mg "len" = none
  b_list : mg "list" = none
  b_max : mg "max" = none
  b_min : mg "min" = none
  b_range : mg "range" = none
  b_sorted : mg "sorted" = none
  b_sum : mg "sum" = none
  b_tuple : mg "tuple" = none
  b_zip : mg "zip" = none
  c_MAX_CAP : ∃ t, mg "MAX_CAP" = some (.int 9 t)
  c_MAX_LINES : ∃ t, mg "MAX_LINES" = some (.int 12 t)
  c_MAX_PLACES : ∃ t, mg "MAX_PLACES" = some (.int 16 t)
section
variable {P : Program} {w : World} {K : PySem.W.Frag} {mg : Str → Option Value} {base : Heap} {T : List (Addr × Str)}
theorem od_L_met (fx : Fx P w K mg base T) : OutQ P w K mg base "_law_met" cls_L_met hs_L_met none :=
  outQ_of (p4 := ⟨0, 0, 0, 0⟩) (p5 := ⟨0, 0, 0, 0⟩) (j := 0) (st := s_L_met) (Ng := ["_law_call"]) (i := 0) fx.d_L_met rfl ⟨rfl, rfl, rfl, by decide +kernel, rfl, by decide +kernel, by decide +kernel⟩ (fun f fd D => D.bindsN fun _ _ _ _ _ _ us hl => match us, hl with | [_], _ => rfl) rfl (.inl rfl) (by decide) (fun g A outer cdg s H gd hu => (mqO fx.gl_InvalidOperation  mqNil)) fx.emq_L_met
theorem ok_is_integer (fx : Fx P w K mg base T) : DefOk P w K mg base T "is_integer" 1 ["value"] F_is_integer :=
  def_okX (st := s_is_integer) (N := N_is_integer) (k := 0) fx.d_is_integer ⟨rfl, rfl, rfl, by decide +kernel, rfl, by decide +kernel, by decide +kernel⟩ (fun f fd D => D.bindsN fun _ _ _ _ _ _ us hl => match us, hl with | [_], _ => rfl) len_is_integer
    fun cdv A outer s H E f B tk => ⟨w_is_integer, (jss_one (js_ret (je_and (je_isi isT_int fx.b_isinstance fx.b_int (by decide +kernel) (je_var 0)) (je_one (je_not (je_isi isT_bool fx.b_isinstance fx.b_bool (by decide +kernel) (je_var 0))))))), pure_is_integer⟩
theorem ok_is_from (fx : Fx P w K mg base T) : DefOk P w K mg base T "is_from" 2 ["value", "first", "last"] F_is_from :=
  def_okX (st := s_is_from) (N := N_is_from) (k := 1) fx.d_is_from ⟨rfl, rfl, rfl, by decide +kernel, rfl, by decide +kernel, by decide +kernel⟩ (fun f fd D => D.bindsN fun _ _ _ _ _ _ us hl => match us, hl with | [_, _, _], _ => rfl) len_is_from
    fun cdv A outer s H E f B tk => ⟨w_is_from, (jss_one (js_ret (je_and (je_call B (ok_is_integer fx) (ja_cons (je_var 0) ja_nil)) (je_one (je_chain opD_le opD_le (je_var 1) (je_var 0) (je_var 2)))))), pure_is_from⟩
theorem ok_is_cap (fx : Fx P w K mg base T) : DefOk P w K mg base T "is_cap" 3 ["value"] F_is_cap :=
  def_okX (st := s_is_cap) (N := N_is_cap) (k := 2) fx.d_is_cap ⟨rfl, rfl, rfl, by decide +kernel, rfl, by decide +kernel, by decide +kernel⟩ (fun f fd D => D.bindsN fun _ _ _ _ _ _ us hl => match us, hl with | [_], _ => rfl) len_is_cap
    fun cdv A outer s H E f B tk => ⟨w_is_cap, (jss_one (js_ret (je_call B (ok_is_from fx) (ja_cons (je_var 0) (ja_cons je_int (ja_cons (je_gint rfl fx.c_MAX_CAP) ja_nil)))))), pure_is_cap⟩
theorem ok_is_line (fx : Fx P w K mg base T) : DefOk P w K mg base T "is_line" 3 ["cap", "value"] F_is_line :=
  def_okX (st := s_is_line) (N := N_is_line) (k := 2) fx.d_is_line ⟨rfl, rfl, rfl, by decide +kernel, rfl, by decide +kernel, by decide +kernel⟩ (fun f fd D => D.bindsN fun _ _ _ _ _ _ us hl => match us, hl with | [_, _], _ => rfl) len_is_line
    fun cdv A outer s H E f B tk => ⟨w_is_line, (jss_cons (js_if (jt_bool (jw_or (jt_not (jt_val (je_isi isT_tuple fx.b_isinstance fx.b_tuple (by decide +kernel) (je_var 1)))) (jw_or1 (jt_not (jt_chain opD_le opD_le je_int (je_b1 (cb_len) fx.b_len (by decide +kernel) (je_b (je_var 1))) (je_gint rfl fx.c_MAX_LINES)))))) (jss_one (js_ret je_bl)) jss_nil) (jss_one (js_ret (jx_b1 as_all (cb_all B.calm) fx.b_all (by decide +kernel) (je_b (jf_e (jf_comp [("cell", 2)] B (ji_seq (je_var 1)) (blkOk_by (by kernel_rfl)) (fun s H C cl fp => (jg_name 2 B.nd)) (fun s H C cl fp B => jts_nil) (fun s H C cl fp B => (je_call B (ok_is_from fx) (ja_cons (je_var 2) (ja_cons je_int (ja_cons (je_var 0) ja_nil)))))))))))), pure_is_line⟩
theorem ok_are_lines (fx : Fx P w K mg base T) : DefOk P w K mg base T "are_lines" 4 ["cap", "lines"] F_are_lines :=
  def_okX (st := s_are_lines) (N := N_are_lines) (k := 3) fx.d_are_lines ⟨rfl, rfl, rfl, by decide +kernel, rfl, by decide +kernel, by decide +kernel⟩ (fun f fd D => D.bindsN fun _ _ _ _ _ _ us hl => match us, hl with | [_, _], _ => rfl) len_are_lines
    fun cdv A outer s H E f B tk => ⟨w_are_lines, (jss_cons (js_if (jt_bool (jw_or (jt_not (jt_val (je_call B (ok_is_cap fx) (ja_cons (je_var 0) ja_nil)))) (jw_or (jt_not (jt_chain opD_le opD_le je_int (je_b1 (cb_len) fx.b_len (by decide +kernel) (je_b (je_var 1))) (je_gint rfl fx.c_MAX_LINES))) (jw_or1 (jt_not (jt_val (jx_b1 as_all (cb_all B.calm) fx.b_all (by decide +kernel) (je_b (jf_e (jf_comp [("line", 2)] B (ji_seq (je_var 1)) (blkOk_by (by kernel_rfl)) (fun s H C cl fp => (jg_name 2 B.nd)) (fun s H C cl fp B => jts_nil) (fun s H C cl fp B => (je_call B (ok_is_line fx) (ja_cons (je_var 0) (ja_cons (je_var 2) ja_nil)))))))))))))) (jss_one (js_ret je_bl)) jss_nil) (jss_one (js_ret (jx_b1 as_all (cb_all B.calm) fx.b_all (by decide +kernel) (je_b (jf_e (jf_comp [("line", 2)] B (ji_seq (je_var 1)) (blkOk_by (by kernel_rfl)) (fun s H C cl fp => (jg_name 2 B.nd)) (fun s H C cl fp B => jts_nil) (fun s H C cl fp B => (jx_cmp as_eq (opD_eq B.u64) (je_b1 (cb_len) fx.b_len (by decide +kernel) (je_b (je_var 2))) (je_b1 (cb_len) fx.b_len (by decide +kernel) (je_b (jx_ix (je_var 1) je_int fun _ _ => rfl))) rfl))))))))), pure_are_lines⟩
theorem ok_Table_init (fx : Fx P w K mg base T) : InitOk P w K mg base T "Table" 5 I_Table :=
  init_okS (st := s_Table_init) (N := N_Table_init) (ps := ["self", "cap"]) (pv := "lines") (k := 4) (n := 1) (F := F_Table_init) fx.mk_Table fx.gl_Table fx.i_Table ⟨rfl, rfl, rfl, by decide +kernel, rfl, by decide +kernel, by decide +kernel⟩ rfl (fun _ _ _ _ _ _ us rest hl => match us, rest, hl with | [_, _], [], _ => rfl | [_, _], _ :: _, _ => rfl)
    fun cdv A outer s H E f B tk => ⟨w_Table_init, (jss_cons (js_if (jt_not (jt_val (je_call B (ok_are_lines fx) (ja_cons (je_var 1) (ja_cons (je_var 2) ja_nil))))) (jss_one (js_raise B tk fx.xc_InvalidTable)) jss_nil) (jss_cons (js_fldO 0 (je_var 1) fx.cl_Table fx.na_Table_own_cap) (jss_one (js_fldO 0 (je_var 2) fx.cl_Table fx.na_Table_own_lines)))), pure_Table_init⟩
theorem ok_Table_of (fx : Fx P w K mg base T) : CMethOk P w K mg base T "Table" "of" 7 F_Table_of :=
  cmeth_okX (st := s_Table_of) (N := N_Table_of) (ps := ["cls", "cap", "lines"]) (k := 6) fx.gl_Table fx.cm_Table_of.rd fx.cm_Table_of.cm fx.qc_Table_of ⟨rfl, rfl, rfl, by decide +kernel, rfl, by decide +kernel, by decide +kernel⟩ (fun fd D => D.bindsN fun _ _ _ _ _ _ us hl => match us, hl with | [_, _, _], _ => rfl) len_Table_of
    fun cdv A outer s H E f B tk => ⟨w_Table_of, (jss_cons (js_if (jt_not (jt_val (je_isi isT_tuple fx.b_isinstance fx.b_tuple (by decide +kernel) (je_var 2)))) (jss_one (js_raise B tk fx.xc_InvalidTable)) jss_nil) (jss_one (js_ret (je_makeLS 0 B (ok_Table_init fx) (ja_cons (je_var 1) (ja_star (je_b (je_var 2)) ja_nil)))))), pure_Table_of⟩
theorem ok_Tournament_scores (fx : Fx P w K mg base T) : PropOk P w K mg base T "Tournament" "scores" 1 F_Tournament_scores :=
  prop_okX (st := s_Tournament_scores) (N := N_Tournament_scores) (k := 0) fx.cl_Tournament fx.p_Tournament_scores fx.q_Tournament_scores ⟨rfl, rfl, rfl, by decide +kernel, rfl, by decide +kernel, by decide +kernel⟩ (fun fd D => D.bindsN fun _ _ _ _ _ _ us hl => match us, hl with | [_], _ => rfl) len_Tournament_scores
    fun cdv A outer s H E f B tk => ⟨w_Tournament_scores, (jss_one (js_ret (je_t1 cb_tuple fx.b_tuple (by decide +kernel) (je_b (jf_e (jf_comp [("row", 1)] B (ji_seq (je_fld (je_var 0) fx.cl_Tournament fx.na_Tournament_own_beaten)) (blkOk_by (by kernel_rfl)) (fun s H C cl fp => (jg_name 1 B.nd)) (fun s H C cl fp B => jts_nil) (fun s H C cl fp B => (je_b1 (cb_len) fx.b_len (by decide +kernel) (je_b (je_var 1)))))))))), pure_Tournament_scores⟩
theorem ok_L_numbers (fx : Fx P w K mg base T) : DefOk P w K mg base T "_law_numbers" 1 ["_law_script", "_law_at"] F_L_numbers :=
  def_okX (st := s_L_numbers) (N := N_L_numbers) (k := 0) fx.d_L_numbers ⟨rfl, rfl, rfl, by decide +kernel, rfl, by decide +kernel, by decide +kernel⟩ (fun f fd D => D.bindsN fun _ _ _ _ _ _ us hl => match us, hl with | [_, _], _ => rfl) len_L_numbers
    fun cdv A outer s H E f B tk => ⟨w_L_numbers, (jss_cons (js_set 2 B (je_if (jt_cmp opD_lt (je_var 1) (je_b1 (cb_len) fx.b_len (by decide +kernel) (je_b (je_var 0))) rfl) (jx_ix (je_var 0) (je_var 1) fun _ _ => rfl) (jx_bin as_add opD_add (jx_bin as_mul opD_mul je_int (je_var 1)) je_int))) (jss_cons (js_set 3 B (jx_bin as_mod opD_mod (je_t1 cb_int fx.b_int (by decide +kernel) (je_b (je_bN cn_abs fx.b_abs (by decide +kernel) (ja_cons (je_var 2) ja_nil)))) (jx_bin as_pow opD_pow (jx_bin as_pow opD_pow je_int je_int) je_int))) (jss_cons (js_set 4 B (jx_bin as_add opD_add (jx_bin as_add opD_add (jx_bin as_add opD_add (jx_bin as_mul opD_mul (je_var 3) je_int) (jx_bin as_mul opD_mul je_int (je_var 1))) (jx_bin as_mul opD_mul je_int (je_t1 cb_int fx.b_int (by decide +kernel) (je_b (je_cmp opD_lt (je_var 2) je_int rfl))))) je_int)) (jss_one (js_ret (je_box (jf_lst (ja_cons (je_bN (cn_max2 B.calm) fx.b_max (by decide +kernel) (ja_cons je_int (ja_cons (je_bin opD_sub (je_var 3) (jx_bin as_pow opD_pow je_int je_int)) ja_nil))) (ja_cons (jx_bin as_mod opD_mod (je_t1 cb_int fx.b_int (by decide +kernel) (je_b (je_var 4))) je_int) (ja_cons je_int ja_nil)))))))))), pure_L_numbers⟩
theorem ok_Table_line_sums (fx : Fx P w K mg base T) : PropOk P w K mg base T "Table" "line_sums" 1 F_Table_line_sums :=
  prop_okX (st := s_Table_line_sums) (N := N_Table_line_sums) (k := 0) fx.cl_Table fx.p_Table_line_sums fx.q_Table_line_sums ⟨rfl, rfl, rfl, by decide +kernel, rfl, by decide +kernel, by decide +kernel⟩ (fun fd D => D.bindsN fun _ _ _ _ _ _ us hl => match us, hl with | [_], _ => rfl) len_Table_line_sums
    fun cdv A outer s H E f B tk => ⟨w_Table_line_sums, (jss_one (js_ret (je_t1 cb_tuple fx.b_tuple (by decide +kernel) (je_b (jf_e (jf_comp [("line", 1)] B (ji_seq (je_fld (je_var 0) fx.cl_Table fx.na_Table_own_lines)) (blkOk_by (by kernel_rfl)) (fun s H C cl fp => (jg_name 1 B.nd)) (fun s H C cl fp B => jts_nil) (fun s H C cl fp B => (jx_b1 as_sum (cb_sum B.calm) fx.b_sum (by decide +kernel) (je_b (je_var 1)))))))))), pure_Table_line_sums⟩
theorem ok_Table_column_sums (fx : Fx P w K mg base T) : PropOk P w K mg base T "Table" "column_sums" 1 F_Table_column_sums :=
  prop_okX (st := s_Table_column_sums) (N := N_Table_column_sums) (k := 0) fx.cl_Table fx.p_Table_column_sums fx.q_Table_column_sums ⟨rfl, rfl, rfl, by decide +kernel, rfl, by decide +kernel, by decide +kernel⟩ (fun fd D => D.bindsN fun _ _ _ _ _ _ us hl => match us, hl with | [_], _ => rfl) len_Table_column_sums
    fun cdv A outer s H E f B tk => ⟨w_Table_column_sums, (jss_one (js_ret (je_t1 cb_tuple fx.b_tuple (by decide +kernel) (je_b (jf_e (jf_comp [("column", 1)] B (ji_zipS rfl fx.b_zip (je_fld (je_var 0) fx.cl_Table fx.na_Table_own_lines)) (blkOk_by (by kernel_rfl)) (fun s H C cl fp => (jg_name 1 B.nd)) (fun s H C cl fp B => jts_nil) (fun s H C cl fp B => (jx_b1 as_sum (cb_sum B.calm) fx.b_sum (by decide +kernel) (je_b (je_var 1)))))))))), pure_Table_column_sums⟩
theorem ok_is_half (fx : Fx P w K mg base T) : DefOk P w K mg base T "is_half" 3 ["table"] F_is_half :=
  def_okX (st := s_is_half) (N := N_is_half) (k := 2) fx.d_is_half ⟨rfl, rfl, rfl, by decide +kernel, rfl, by decide +kernel, by decide +kernel⟩ (fun f fd D => D.bindsN fun _ _ _ _ _ _ us hl => match us, hl with | [_], _ => rfl) len_is_half
    fun cdv A outer s H E f B tk => ⟨w_is_half, (jss_cons (js_set 1 B (je_b1 (cb_len) fx.b_len (by decide +kernel) (je_b (je_fld (je_var 0) fx.cl_Table fx.na_Table_own_lines)))) (jss_cons (js_if (jt_bool (jw_or (jtx_cmp as_ne (opD_ne B.u64) (je_fld (je_var 0) fx.cl_Table fx.na_Table_own_cap) je_int rfl) (jw_or1 (jtx_cmp as_ne (opD_ne B.u64) (je_b1 (cb_len) fx.b_len (by decide +kernel) (je_b (jx_ix (je_fld (je_var 0) fx.cl_Table fx.na_Table_own_lines) je_int fun _ _ => rfl))) (je_var 1) rfl)))) (jss_one (js_ret je_bl)) jss_nil) (jss_cons (js_if (jt_val (jx_b1 as_any (cb_any B.calm) fx.b_any (by decide +kernel) (je_b (jf_e (jf_comp [("at", 2), ("line", 3)] B (ji_enum rfl fx.b_enumerate (je_fld (je_var 0) fx.cl_Table fx.na_Table_own_lines)) (blkOk_by (by kernel_rfl)) (fun s H C cl fp => (jg_tup B.calm (jgs_cons (jg_name 2 B.nd) (jgs_cons (jg_name 3 B.nd) jgs_nil)))) (fun s H C cl fp B => jts_nil) (fun s H C cl fp B => (jx_cmp as_ne (opD_ne B.u64) (jx_ix (je_var 3) (je_var 2) fun _ _ => rfl) je_int rfl))))))) (jss_one (js_ret je_bl)) jss_nil) (jss_one (js_ret (jx_b1 as_all (cb_all B.calm) fx.b_all (by decide +kernel) (je_b (jf_e (jf_comp [("one", 4), ("other", 5)] B (ji_zip rfl fx.b_zip (je_prop B (ok_Table_line_sums fx) (je_var 0)) (je_prop B (ok_Table_column_sums fx) (je_var 0))) (blkOk_by (by kernel_rfl)) (fun s H C cl fp => (jg_tup B.calm (jgs_cons (jg_name 4 B.nd) (jgs_cons (jg_name 5 B.nd) jgs_nil)))) (fun s H C cl fp B => jts_nil) (fun s H C cl fp B => (jx_cmp as_eq (opD_eq B.u64) (jx_bin as_add opD_add (je_var 4) (je_var 5)) (je_bin opD_sub (je_var 1) je_int) rfl))))))))))), pure_is_half⟩
theorem ok_is_half_table (fx : Fx P w K mg base T) : DefOk P w K mg base T "is_half_table" 4 ["value"] F_is_half_table :=
  def_okX (st := s_is_half_table) (N := N_is_half_table) (k := 3) fx.d_is_half_table ⟨rfl, rfl, rfl, by decide +kernel, rfl, by decide +kernel, by decide +kernel⟩ (fun f fd D => D.bindsN fun _ _ _ _ _ _ us hl => match us, hl with | [_], _ => rfl) len_is_half_table
    fun cdv A outer s H E f B tk => ⟨w_is_half_table, (jss_one (js_ret (je_and (je_isC fx.ic_Table fx.gl_Table fx.b_isinstance (je_var 0)) (je_one (je_call B (ok_is_half fx) (ja_cons (je_var 0) ja_nil)))))), pure_is_half_table⟩
theorem ok_is_ascending (fx : Fx P w K mg base T) : DefOk P w K mg base T "is_ascending" 1 ["items"] F_is_ascending :=
  def_okX (st := s_is_ascending) (N := N_is_ascending) (k := 0) fx.d_is_ascending ⟨rfl, rfl, rfl, by decide +kernel, rfl, by decide +kernel, by decide +kernel⟩ (fun f fd D => D.bindsN fun _ _ _ _ _ _ us hl => match us, hl with | [_], _ => rfl) len_is_ascending
    fun cdv A outer s H E f B tk => ⟨w_is_ascending, (jss_one (js_ret (jx_b1 as_all (cb_all B.calm) fx.b_all (by decide +kernel) (je_b (jf_e (jf_comp [("one", 1), ("other", 2)] B (ji_zip rfl fx.b_zip (je_var 0) (je_slice (je_var 0) (jo_some je_int) jo_none)) (blkOk_by (by kernel_rfl)) (fun s H C cl fp => (jg_tup B.calm (jgs_cons (jg_name 1 B.nd) (jgs_cons (jg_name 2 B.nd) jgs_nil)))) (fun s H C cl fp B => jts_nil) (fun s H C cl fp B => (je_cmp opD_lt (je_var 1) (je_var 2) rfl)))))))), pure_is_ascending⟩
theorem ok_are_indices (fx : Fx P w K mg base T) : DefOk P w K mg base T "are_indices" 3 ["value", "size"] F_are_indices :=
  def_okX (st := s_are_indices) (N := N_are_indices) (k := 2) fx.d_are_indices ⟨rfl, rfl, rfl, by decide +kernel, rfl, by decide +kernel, by decide +kernel⟩ (fun f fd D => D.bindsN fun _ _ _ _ _ _ us hl => match us, hl with | [_, _], _ => rfl) len_are_indices
    fun cdv A outer s H E f B tk => ⟨w_are_indices, (jss_cons (js_if (jt_bool (jw_or (jt_not (jt_val (je_isi isT_tuple fx.b_isinstance fx.b_tuple (by decide +kernel) (je_var 0)))) (jw_or1 (jt_not (jt_val (jx_b1 as_all (cb_all B.calm) fx.b_all (by decide +kernel) (je_b (jf_e (jf_comp [("one", 2)] B (ji_seq (je_var 0)) (blkOk_by (by kernel_rfl)) (fun s H C cl fp => (jg_name 2 B.nd)) (fun s H C cl fp B => jts_nil) (fun s H C cl fp B => (je_call B (ok_is_from fx) (ja_cons (je_var 2) (ja_cons je_int (ja_cons (je_bin opD_sub (je_var 1) je_int) ja_nil)))))))))))))) (jss_one (js_ret je_bl)) jss_nil) (jss_one (js_ret (je_call B (ok_is_ascending fx) (ja_cons (je_var 0) ja_nil))))), pure_are_indices⟩
theorem ok_are_results (fx : Fx P w K mg base T) : DefOk P w K mg base T "are_results" 4 ["beaten"] F_are_results :=
  def_okX (st := s_are_results) (N := N_are_results) (k := 3) fx.d_are_results ⟨rfl, rfl, rfl, by decide +kernel, rfl, by decide +kernel, by decide +kernel⟩ (fun f fd D => D.bindsN fun _ _ _ _ _ _ us hl => match us, hl with | [_], _ => rfl) len_are_results
    fun cdv A outer s H E f B tk => ⟨w_are_results, (jss_cons (js_set 1 B (je_b1 (cb_len) fx.b_len (by decide +kernel) (je_b (je_var 0)))) (jss_cons (js_if (jt_bool (jw_or (jt_not (jt_chain opD_le opD_le je_int (je_var 1) (je_gint rfl fx.c_MAX_PLACES))) (jw_or1 (jt_not (jt_val (jx_b1 as_all (cb_all B.calm) fx.b_all (by decide +kernel) (je_b (jf_e (jf_comp [("row", 5)] B (ji_seq (je_var 0)) (blkOk_by (by kernel_rfl)) (fun s H C cl fp => (jg_name 5 B.nd)) (fun s H C cl fp B => jts_nil) (fun s H C cl fp B => (je_call B (ok_are_indices fx) (ja_cons (je_var 5) (ja_cons (je_var 1) ja_nil))))))))))))) (jss_one (js_ret je_bl)) jss_nil) (jss_cons (js_if (jt_val (jx_b1 as_any (cb_any B.calm) fx.b_any (by decide +kernel) (je_b (jf_e (jf_comp [("player", 4), ("row", 5)] B (ji_enum rfl fx.b_enumerate (je_var 0)) (blkOk_by (by kernel_rfl)) (fun s H C cl fp => (jg_tup B.calm (jgs_cons (jg_name 4 B.nd) (jgs_cons (jg_name 5 B.nd) jgs_nil)))) (fun s H C cl fp B => jts_nil) (fun s H C cl fp B => (jx_cmp as_in (opD_in B.u65) (je_var 4) (je_var 5) rfl))))))) (jss_one (js_ret je_bl)) jss_nil) (jss_one (js_ret (jx_b1 as_all (cb_all B.calm) fx.b_all (by decide +kernel) (je_b (jf_e (jf_comp2 [("other", 2), ("one", 3)] [3] B (ji_range1 rfl fx.b_range (je_var 1)) (blkOk_by (by kernel_rfl)) (fun s H C cl fp => (jg_name 2 B.nd)) (fun s H C cl fp B => jts_nil) (fun s H C cl fp B => (ji_range1 rfl fx.b_range (je_var 2))) (fun s H C cl fp => (jg_name 3 B.nd)) (fun s H C cl fp B => jts_nil) (fun s H C cl fp B => (jx_cmp as_ne (opD_ne B.u64) (jx_cmp as_in (opD_in B.u65) (je_var 3) (jx_ix (je_var 0) (je_var 2) fun _ _ => rfl) rfl) (jx_cmp as_in (opD_in B.u65) (je_var 2) (jx_ix (je_var 0) (je_var 3) fun _ _ => rfl) rfl) rfl))))))))))), pure_are_results⟩
theorem ok_Tournament_init (fx : Fx P w K mg base T) : InitOk P w K mg base T "Tournament" 5 I_Tournament :=
  init_okS (st := s_Tournament_init) (N := N_Tournament_init) (ps := ["self"]) (pv := "beaten") (k := 4) (n := 0) (F := F_Tournament_init) fx.mk_Tournament fx.gl_Tournament fx.i_Tournament ⟨rfl, rfl, rfl, by decide +kernel, rfl, by decide +kernel, by decide +kernel⟩ rfl (fun _ _ _ _ _ _ us rest hl => match us, rest, hl with | [_], [], _ => rfl | [_], _ :: _, _ => rfl)
    fun cdv A outer s H E f B tk => ⟨w_Tournament_init, (jss_cons (js_if (jt_not (jt_val (je_call B (ok_are_results fx) (ja_cons (je_var 1) ja_nil)))) (jss_one (js_raise B tk fx.xc_InvalidTournament)) jss_nil) (jss_one (js_fldO 0 (je_var 1) fx.cl_Tournament fx.na_Tournament_own_beaten))), pure_Tournament_init⟩
theorem ok_Tournament_of (fx : Fx P w K mg base T) : CMethOk P w K mg base T "Tournament" "of" 7 F_Tournament_of :=
  cmeth_okX (st := s_Tournament_of) (N := N_Tournament_of) (ps := ["cls", "beaten"]) (k := 6) fx.gl_Tournament fx.cm_Tournament_of.rd fx.cm_Tournament_of.cm fx.qc_Tournament_of ⟨rfl, rfl, rfl, by decide +kernel, rfl, by decide +kernel, by decide +kernel⟩ (fun fd D => D.bindsN fun _ _ _ _ _ _ us hl => match us, hl with | [_, _], _ => rfl) len_Tournament_of
    fun cdv A outer s H E f B tk => ⟨w_Tournament_of, (jss_cons (js_if (jt_not (jt_val (je_isi isT_tuple fx.b_isinstance fx.b_tuple (by decide +kernel) (je_var 1)))) (jss_one (js_raise B tk fx.xc_InvalidTournament)) jss_nil) (jss_one (js_ret (je_makeL1 0 B (ok_Tournament_init fx) (je_b (je_var 1)))))), pure_Tournament_of⟩
theorem ok_halves_of (fx : Fx P w K mg base T) : DefOk P w K mg base T "halves_of" 1 ["open_pairs"] F_halves_of :=
  def_okX (st := s_halves_of) (N := N_halves_of) (k := 0) fx.d_halves_of ⟨rfl, rfl, rfl, by decide +kernel, rfl, by decide +kernel, by decide +kernel⟩ (fun f fd D => D.bindsN fun _ _ _ _ _ _ us hl => match us, hl with | [_], _ => rfl) len_halves_of
    fun cdv A outer s H E f B tk => ⟨w_halves_of, (jss_cons (js_parM2 2 3 B (jm_f (jf_comp [("others", 6)] B (ji_seq (je_var 0)) (blkOk_by (by kernel_rfl)) (fun s H C cl fp => (jg_name 6 B.nd)) (fun s H C cl fp B => jts_nil) (fun s H C cl fp B => (je_cell 8 (jf_t1 cf_list fx.b_list (by decide +kernel) (je_b (je_var 6)))))) (jm_f (jf_lst ja_nil) jm_nil))) (jss_cons (js_for B (us := [1]) (ji_range1 rfl fx.b_range (je_b1 (cb_len) fx.b_len (by decide +kernel) (jb_own 2))) (jg_name 1 B.nd) (jss_cons (js_set 4 B (je_var 1)) (jss_one (js_while B (jt_thawC 2 8 (jtx_cmp as_ne (opD_ne B.u64) (jx_ix (je_var 2) (je_var 4) fun _ _ => rfl) (jf_e (jf_lst ja_nil)) rfl)) (jss_cons (js_set 5 B (je_popC 8 (je_ixOwn 2 (je_var 4) fun _ _ => rfl))) (jss_cons (js_setIx 2 (je_var 5) (je_cell 8 (jf_thawC 2 8 (jf_comp [("one", 7)] B (ji_seq (jx_ix (je_var 2) (je_var 5) fun _ _ => rfl)) (blkOk_by (by kernel_rfl)) (fun s H C cl fp => (jg_name 7 B.nd)) (fun s H C cl fp B => (jts_one (jtx_cmp as_ne (opD_ne B.u64) (je_var 7) (je_var 4) rfl))) (fun s H C cl fp B => (je_var 7)))))) (jss_cons (js_expr (je_append 3 (je_tup (ja_cons (je_var 4) (ja_cons (je_var 5) ja_nil))))) (jss_one (js_set 4 B (je_var 5)))))))))) (jss_one (js_ret (je_frz 3))))), pure_halves_of⟩
theorem ok_halved (fx : Fx P w K mg base T) : DefOk P w K mg base T "halved" 8 ["table"] F_halved :=
  def_okX (st := s_halved) (N := N_halved) (k := 7) fx.d_halved ⟨rfl, rfl, rfl, by decide +kernel, rfl, by decide +kernel, by decide +kernel⟩ (fun f fd D => D.bindsN fun _ _ _ _ _ _ us hl => match us, hl with | [_], _ => rfl) len_halved
    fun cdv A outer s H E f B tk => ⟨w_halved, (jss_cons (js_if (jt_not (jt_val (je_isC fx.ic_Table fx.gl_Table fx.b_isinstance (je_var 0)))) (jss_one (js_raise B tk fx.xc_InvalidTable)) jss_nil) (jss_cons (js_if (jt_not (jt_val (je_call B (ok_is_half fx) (ja_cons (je_var 0) ja_nil)))) (jss_one (js_raise B tk fx.xc_InvalidOperation)) jss_nil) (jss_cons (js_asg (us := [3, 4]) (je_tup (ja_cons (je_fld (je_var 0) fx.cl_Table fx.na_Table_own_lines) (ja_cons (jf_e (jf_listRg B fx.b_list (jr_1 fx.b_range (je_b1 (cb_len) fx.b_len (by decide +kernel) (je_b (je_fld (je_var 0) fx.cl_Table fx.na_Table_own_lines)))))) ja_nil))) (jg_tup B.calm (jgs_cons (jg_name 3 B.nd) (jgs_cons (jg_name 4 B.nd) jgs_nil)))) (jss_cons (js_setCompD 1 [("i", 7)] B (ji_seq (je_var 4)) (blkOk_by (by kernel_rfl)) (fun s H C cl fp => (jg_name 7 B.nd)) (fun s H C cl fp B => jts_nil) (fun s H C cl fp B => (jf_e (jf_comp [("j", 8)] B (ji_seq (je_var 4)) (blkOk_by (by kernel_rfl)) (fun s H C cl fp => (jg_name 8 B.nd)) (fun s H C cl fp B => (jts_one (jt_bool (jw_and (jtx_cmp as_ne (opD_ne B.u64) (je_var 8) (je_var 7) rfl) (jw_and1 (jtx_cmp as_eq (opD_eq B.u64) (jx_ix (jx_ix (je_var 3) (je_var 7) fun _ _ => rfl) (je_var 8) fun _ _ => rfl) (jx_ix (jx_ix (je_var 3) (je_var 8) fun _ _ => rfl) (je_var 7) fun _ _ => rfl) rfl)))))) (fun s H C cl fp B => (je_var 8))))) (sw_true rfl rfl rfl (by kernel_rfl))) (jss_cons (js_setComp 2 [("i", 7)] B (ji_seq (je_var 4)) (blkOk_by (by kernel_rfl)) (fun s H C cl fp => (jg_name 7 B.nd)) (fun s H C cl fp B => jts_nil) (fun s H C cl fp B => (je_cell 10 (jf_comp [("j", 8)] B (ji_seq (je_var 4)) (blkOk_by (by kernel_rfl)) (fun s H C cl fp => (jg_name 8 B.nd)) (fun s H C cl fp B => (jts_one (jt_bool (jw_and (jtx_cmp as_eq (opD_eq B.u64) (jx_ix (jx_ix (je_var 3) (je_var 7) fun _ _ => rfl) (je_var 8) fun _ _ => rfl) je_int rfl) (jw_and1 (jtx_cmp as_eq (opD_eq B.u64) (jx_ix (jx_ix (je_var 3) (je_var 8) fun _ _ => rfl) (je_var 7) fun _ _ => rfl) je_int rfl)))))) (fun s H C cl fp B => (je_var 8))))) (sw_true rfl rfl rfl (by kernel_rfl))) (jss_cons (js_for B (us := [5, 6]) (ji_seq (je_call B (ok_halves_of fx) (ja_cons (je_var 1) ja_nil))) (jg_tup B.calm (jgs_cons (jg_name 5 B.nd) (jgs_cons (jg_name 6 B.nd) jgs_nil))) (jss_one (js_expr (je_appendC 10 (je_ixOwn 2 (je_var 5) fun _ _ => rfl) (je_var 6))))) (jss_one (js_ret (je_cmeth B (ok_Tournament_of fx) (ja_cons (je_t1 cb_tuple fx.b_tuple (by decide +kernel) (je_b (jf_e (jf_comp [("one", 9)] B (ji_seq (je_frz 2)) (blkOk_by (by kernel_rfl)) (fun s H C cl fp => (jg_name 9 B.nd)) (fun s H C cl fp B => jts_nil) (fun s H C cl fp B => (je_t1 cb_tuple fx.b_tuple (by decide +kernel) (je_b (jf_e (jf_sorted B fx.b_sorted (jb_cel 10 (je_var 9))))))))))) ja_nil)))))))))), pure_halved⟩
theorem ok_require_index (fx : Fx P w K mg base T) : DefOk P w K mg base T "require_index" 3 ["value", "size"] F_require_index :=
  def_okX (st := s_require_index) (N := N_require_index) (k := 2) fx.d_require_index ⟨rfl, rfl, rfl, by decide +kernel, rfl, by decide +kernel, by decide +kernel⟩ (fun f fd D => D.bindsN fun _ _ _ _ _ _ us hl => match us, hl with | [_, _], _ => rfl) len_require_index
    fun cdv A outer s H E f B tk => ⟨w_require_index, (jss_one (js_if (jt_not (jt_val (je_call B (ok_is_from fx) (ja_cons (je_var 0) (ja_cons je_int (ja_cons (je_bin opD_sub (je_var 1) je_int) ja_nil)))))) (jss_one (js_raiseV B tk fx.xv_InvalidNumber (je_var 0))) jss_nil)), pure_require_index⟩
theorem ok_Tournament_beats (fx : Fx P w K mg base T) : MethOk P w K mg base T "Tournament" "beats" 4 F_Tournament_beats :=
  meth_okX (st := s_Tournament_beats) (N := N_Tournament_beats) (ps := ["self", "one", "other"]) (k := 3) fx.cl_Tournament fx.mt_Tournament_beats fx.im_Tournament_beats ⟨rfl, rfl, rfl, by decide +kernel, rfl, by decide +kernel, by decide +kernel⟩ (fun fd D => D.bindsN fun _ _ _ _ _ _ us hl => match us, hl with | [_, _, _], _ => rfl) len_Tournament_beats
    fun cdv A outer s H E f B tk => ⟨w_Tournament_beats, (jss_cons (js_expr (je_call B (ok_require_index fx) (ja_cons (je_var 1) (ja_cons (je_b1 (cb_len) fx.b_len (by decide +kernel) (je_b (je_fld (je_var 0) fx.cl_Tournament fx.na_Tournament_own_beaten))) ja_nil)))) (jss_cons (js_expr (je_call B (ok_require_index fx) (ja_cons (je_var 2) (ja_cons (je_b1 (cb_len) fx.b_len (by decide +kernel) (je_b (je_fld (je_var 0) fx.cl_Tournament fx.na_Tournament_own_beaten))) ja_nil)))) (jss_one (js_ret (jx_cmp as_in (opD_in B.u65) (je_var 2) (jx_ix (je_fld (je_var 0) fx.cl_Tournament fx.na_Tournament_own_beaten) (je_var 1) fun _ _ => rfl) rfl))))), pure_Tournament_beats⟩
theorem ok_L_halved_right (fx : Fx P w K mg base T) : DefOk P w K mg base T "_law_halved_right" 9 ["_law_table", "_law_cells"] F_L_halved_right :=
  def_okX (st := s_L_halved_right) (N := N_L_halved_right) (k := 8) fx.d_L_halved_right ⟨rfl, rfl, rfl, by decide +kernel, rfl, by decide +kernel, by decide +kernel⟩ (fun f fd D => D.bindsN fun _ _ _ _ _ _ us hl => match us, hl with | [_, _], _ => rfl) len_L_halved_right
    fun cdv A outer s H E f B tk => ⟨w_L_halved_right, (jss_cons (js_parM2 3 4 B (jm_e (je_call B (ok_halved fx) (ja_cons (je_var 0) ja_nil)) (jm_e (je_b1 (cb_len) fx.b_len (by decide +kernel) (je_b (je_var 1))) jm_nil))) (jss_cons (js_if (jt_bool (jw_or (jt_not (jt_val (je_isC fx.ic_Tournament fx.gl_Tournament fx.b_isinstance (je_var 3)))) (jw_or1 (jtx_cmp as_ne (opD_ne B.u64) (je_prop B (ok_Tournament_scores fx) (je_var 3)) (je_t1 cb_tuple fx.b_tuple (by decide +kernel) (je_b (jf_e (jf_comp [("_law_line", 7)] B (ji_seq (je_var 1)) (blkOk_by (by kernel_rfl)) (fun s H C cl fp => (jg_name 7 B.nd)) (fun s H C cl fp B => jts_nil) (fun s H C cl fp B => (jx_b1 as_sum (cb_sum B.calm) fx.b_sum (by decide +kernel) (je_b (je_var 7)))))))) rfl)))) (jss_one (js_ret je_bl)) jss_nil) (jss_cons (js_for B (us := [2]) (ji_range1 rfl fx.b_range (je_var 4)) (jg_name 2 B.nd) (jss_one (js_for B (us := [5]) (ji_range1 rfl fx.b_range (je_var 4)) (jg_name 5 B.nd) (jss_cons (js_set 6 B (je_cmp opD_gt (jx_ix (jx_ix (je_var 1) (je_var 2) fun _ _ => rfl) (je_var 5) fun _ _ => rfl) (jx_ix (jx_ix (je_var 1) (je_var 5) fun _ _ => rfl) (je_var 2) fun _ _ => rfl) rfl)) (jss_one (js_if (jt_bool (jw_and (jt_val (je_var 6)) (jw_and1 (jt_not (jt_val (je_meth B (ok_Tournament_beats fx) (je_var 3) (ja_cons (je_var 2) (ja_cons (je_var 5) ja_nil)))))))) (jss_one (js_ret je_bl)) jss_nil)))))) (jss_one (js_ret je_bl))))), pure_L_halved_right⟩
theorem ok_Table_eq (fx : Fx P w K mg base T) : MethOk P w K mg base T "Table" "__eq__" 1 F_Table_eq :=
  meth_okX (st := s_Table_eq) (N := N_Table_eq) (ps := ["self", "other"]) (k := 0) fx.cl_Table fx.mt_Table_eq fx.im_Table_eq ⟨rfl, rfl, rfl, by decide +kernel, rfl, by decide +kernel, by decide +kernel⟩ (fun fd D => D.bindsN fun _ _ _ _ _ _ us hl => match us, hl with | [_, _], _ => rfl) len_Table_eq
    fun cdv A outer s H E f B tk => ⟨w_Table_eq, (jss_one (js_ret (je_and (je_isC fx.ic_Table fx.gl_Table fx.b_isinstance (je_var 1)) (je_and (jx_cmp as_eq (opD_eq B.u64) (je_fld (je_var 0) fx.cl_Table fx.na_Table_own_cap) (je_fld (je_var 1) fx.cl_Table fx.na_Table_own_cap) rfl) (je_one (jx_cmp as_eq (opD_eq B.u64) (je_fld (je_var 0) fx.cl_Table fx.na_Table_own_lines) (je_fld (je_var 1) fx.cl_Table fx.na_Table_own_lines) rfl)))))), pure_Table_eq⟩
theorem ok_Tournament_eq (fx : Fx P w K mg base T) : MethOk P w K mg base T "Tournament" "__eq__" 1 F_Tournament_eq :=
  meth_okX (st := s_Tournament_eq) (N := N_Tournament_eq) (ps := ["self", "other"]) (k := 0) fx.cl_Tournament fx.mt_Tournament_eq fx.im_Tournament_eq ⟨rfl, rfl, rfl, by decide +kernel, rfl, by decide +kernel, by decide +kernel⟩ (fun fd D => D.bindsN fun _ _ _ _ _ _ us hl => match us, hl with | [_, _], _ => rfl) len_Tournament_eq
    fun cdv A outer s H E f B tk => ⟨w_Tournament_eq, (jss_one (js_ret (je_and (je_isC fx.ic_Tournament fx.gl_Tournament fx.b_isinstance (je_var 1)) (je_one (jx_cmp as_eq (opD_eq B.u64) (je_fld (je_var 0) fx.cl_Tournament fx.na_Tournament_own_beaten) (je_fld (je_var 1) fx.cl_Tournament fx.na_Tournament_own_beaten) rfl))))), pure_Tournament_eq⟩
theorem ok_L_cast (fx : Fx P w K mg base T) : DefOk P w K mg base T "_law_cast" 1 ["_law_die", "_law_total"] F_L_cast :=
  def_okX (st := s_L_cast) (N := N_L_cast) (k := 0) fx.d_L_cast ⟨rfl, rfl, rfl, by decide +kernel, rfl, by decide +kernel, by decide +kernel⟩ (fun f fd D => D.bindsN fun _ _ _ _ _ _ us hl => match us, hl with | [_, _], _ => rfl) len_L_cast
    fun cdv A outer s H E f B tk => ⟨w_L_cast, (jss_cons (js_if (jt_cmp opD_gt (je_boxGet (je_var 0) je_int fun _ _ => rfl) je_int rfl) (jss_cons (js_set 4 B (jx_bin as_mod opD_mod (je_t1 cb_int fx.b_int (by decide +kernel) (je_b (je_boxGet (je_var 0) je_int fun _ _ => rfl))) (je_var 1))) (jss_cons (js_boxSet 0 (jx_bin as_div opD_div (je_boxGet (je_var 0) je_int fun _ _ => rfl) (je_var 1))) (jss_one (js_ret (je_var 4))))) jss_nil) (jss_cons (js_boxSet 0 (jx_bin as_add opD_add (je_boxGet (je_var 0) je_int fun _ _ => rfl) je_int)) (jss_cons (js_set 2 B (jx_bin as_mod opD_mod (je_t1 cb_int fx.b_int (by decide +kernel) (je_b (jx_bin as_add opD_add (je_boxGet (je_var 0) je_int fun _ _ => rfl) (jx_bin as_mul opD_mul je_int (je_boxGet (je_var 0) je_int fun _ _ => rfl))))) je_int)) (jss_cons (js_set 3 B (jx_bin as_add opD_add (jx_bin as_mul opD_mul (jx_bin as_mod opD_mod (je_t1 cb_int fx.b_int (by decide +kernel) (je_b (jx_bin as_mul opD_mul (je_var 2) (je_var 2)))) je_int) (je_var 2)) (jx_bin as_mul opD_mul je_int (je_boxGet (je_var 0) je_int fun _ _ => rfl)))) (jss_one (js_ret (jx_bin as_mod opD_mod (je_t1 cb_int fx.b_int (by decide +kernel) (je_b (jx_bin as_div opD_div (jx_bin as_mod opD_mod (je_t1 cb_int fx.b_int (by decide +kernel) (je_b (jx_bin as_add opD_add (je_var 3) (je_boxGet (je_var 0) je_int fun _ _ => rfl)))) je_int) je_int))) (je_var 1)))))))), pure_L_cast⟩
theorem ok_L_any_wins (fx : Fx P w K mg base T) : DefOk P w K mg base T "_law_any_wins" 2 ["_law_die", "_law_many"] F_L_any_wins :=
  def_okX (st := s_L_any_wins) (N := N_L_any_wins) (k := 1) fx.d_L_any_wins ⟨rfl, rfl, rfl, by decide +kernel, rfl, by decide +kernel, by decide +kernel⟩ (fun f fd D => D.bindsN fun _ _ _ _ _ _ us hl => match us, hl with | [_, _], _ => rfl) len_L_any_wins
    fun cdv A outer s H E f B tk => ⟨w_L_any_wins, (jss_cons (js_setComp 2 [("_law_player", 5)] B (ji_range1 rfl fx.b_range (je_var 1)) (blkOk_by (by kernel_rfl)) (fun s H C cl fp => (jg_name 5 B.nd)) (fun s H C cl fp B => jts_nil) (fun s H C cl fp B => (je_cell 7 (jf_lst ja_nil))) (sw_true rfl rfl rfl (by kernel_rfl))) (jss_cons (js_for B (us := [3]) (ji_range1 rfl fx.b_range (je_var 1)) (jg_name 3 B.nd) (jss_one (js_for B (us := [4]) (ji_range2 rfl fx.b_range (jx_bin as_add opD_add (je_var 3) je_int) (je_var 1)) (jg_name 4 B.nd) (jss_one (js_if (jtx_cmp as_eq (opD_eq B.u64) (je_call B (ok_L_cast fx) (ja_cons (je_var 0) (ja_cons je_int ja_nil))) je_int rfl) (jss_one (js_expr (je_appendC 7 (je_ixOwn 2 (je_var 3) fun _ _ => rfl) (je_var 4)))) (jss_one (js_expr (je_appendC 7 (je_ixOwn 2 (je_var 4) fun _ _ => rfl) (je_var 3))))))))) (jss_one (js_ret (jf_e (jf_comp [("_law_row", 6)] B (ji_seq (je_frz 2)) (blkOk_by (by kernel_rfl)) (fun s H C cl fp => (jg_name 6 B.nd)) (fun s H C cl fp B => jts_nil) (fun s H C cl fp B => (jf_e (jf_sorted B fx.b_sorted (jb_cel 7 (je_var 6))))))))))), pure_L_any_wins⟩
theorem ok_L_played (fx : Fx P w K mg base T) : DefOk P w K mg base T "_law_played" 8 ["_law_beaten"] F_L_played :=
  def_okX (st := s_L_played) (N := N_L_played) (k := 7) fx.d_L_played ⟨rfl, rfl, rfl, by decide +kernel, rfl, by decide +kernel, by decide +kernel⟩ (fun f fd D => D.bindsN fun _ _ _ _ _ _ us hl => match us, hl with | [_], _ => rfl) len_L_played
    fun cdv A outer s H E f B tk => ⟨w_L_played, (jss_one (js_ret (je_cmeth B (ok_Tournament_of fx) (ja_cons (je_t1 cb_tuple fx.b_tuple (by decide +kernel) (je_b (jf_e (jf_comp [("_law_row", 1)] B (ji_seq (je_var 0)) (blkOk_by (by kernel_rfl)) (fun s H C cl fp => (jg_name 1 B.nd)) (fun s H C cl fp B => jts_nil) (fun s H C cl fp B => (je_t1 cb_tuple fx.b_tuple (by decide +kernel) (je_b (je_var 1)))))))) ja_nil)))), pure_L_played⟩
theorem ok_require_tournament (fx : Fx P w K mg base T) : DefOk P w K mg base T "require_tournament" 2 ["tournament"] F_require_tournament :=
  def_okX (st := s_require_tournament) (N := N_require_tournament) (k := 1) fx.d_require_tournament ⟨rfl, rfl, rfl, by decide +kernel, rfl, by decide +kernel, by decide +kernel⟩ (fun f fd D => D.bindsN fun _ _ _ _ _ _ us hl => match us, hl with | [_], _ => rfl) len_require_tournament
    fun cdv A outer s H E f B tk => ⟨w_require_tournament, (jss_one (js_if (jt_not (jt_val (je_isC fx.ic_Tournament fx.gl_Tournament fx.b_isinstance (je_var 0)))) (jss_one (js_raise B tk fx.xc_InvalidTournament)) jss_nil)), pure_require_tournament⟩
theorem ok_table_of_tournament (fx : Fx P w K mg base T) : DefOk P w K mg base T "table_of_tournament" 8 ["tournament"] F_table_of_tournament :=
  def_okX (st := s_table_of_tournament) (N := N_table_of_tournament) (k := 7) fx.d_table_of_tournament ⟨rfl, rfl, rfl, by decide +kernel, rfl, by decide +kernel, by decide +kernel⟩ (fun f fd D => D.bindsN fun _ _ _ _ _ _ us hl => match us, hl with | [_], _ => rfl) len_table_of_tournament
    fun cdv A outer s H E f B tk => ⟨w_table_of_tournament, (jss_cons (js_expr (je_call B (ok_require_tournament fx) (ja_cons (je_var 0) ja_nil))) (jss_cons (js_set 1 B (jf_e (jf_listRg B fx.b_list (jr_1 fx.b_range (je_b1 (cb_len) fx.b_len (by decide +kernel) (je_b (je_fld (je_var 0) fx.cl_Tournament fx.na_Tournament_own_beaten))))))) (jss_cons (js_if (jt_cmp opD_gt (je_b1 (cb_len) fx.b_len (by decide +kernel) (je_b (je_var 1))) (je_gint rfl fx.c_MAX_LINES) rfl) (jss_one (js_raiseI B tk fx.xv_TooMany (je_gint rfl fx.c_MAX_LINES))) jss_nil) (jss_one (js_ret (je_cmeth B (ok_Table_of fx) (ja_cons je_int (ja_cons (je_t1 cb_tuple fx.b_tuple (by decide +kernel) (je_b (jf_e (jf_comp [("one", 2)] B (ji_seq (je_fld (je_var 0) fx.cl_Tournament fx.na_Tournament_own_beaten)) (blkOk_by (by kernel_rfl)) (fun s H C cl fp => (jg_name 2 B.nd)) (fun s H C cl fp B => jts_nil) (fun s H C cl fp B => (je_t1 cb_tuple fx.b_tuple (by decide +kernel) (je_b (jf_e (jf_comp [("other", 3)] B (ji_seq (je_var 1)) (blkOk_by (by kernel_rfl)) (fun s H C cl fp => (jg_name 3 B.nd)) (fun s H C cl fp B => jts_nil) (fun s H C cl fp B => (je_t1 cb_int fx.b_int (by decide +kernel) (je_b (jx_cmp as_in (opD_in B.u65) (je_var 3) (je_var 2) rfl))))))))))))) ja_nil)))))))), pure_table_of_tournament⟩
theorem ok_L_exchanged (fx : Fx P w K mg base T) : DefM P w K mg base T "_law_exchanged" 2 ["_law_die", "_law_cells"] F_L_exchanged :=
  def_okM (st := s_L_exchanged) (N := N_L_exchanged) (k := 1) 13 fx.d_L_exchanged ⟨rfl, rfl, rfl, by decide +kernel, rfl, by decide +kernel, by decide +kernel⟩ (fun f fd D => D.bindsN fun _ _ _ _ _ _ us hl => match us, hl with | [_, _], _ => rfl) len_L_exchanged (by decide) (by decide)
    fun cdv A outer s H E f B tk => ⟨w_L_exchanged, (jss_cons (js_set 2 B (je_b1 (cb_len) fx.b_len (by decide +kernel) (jb_own 1))) (jss_cons (js_for B (us := [3]) (ji_range1 rfl fx.b_range (jx_bin as_mul opD_mul je_int (je_var 2))) (jg_name 3 B.nd) (jss_cons (js_parM2 6 7 B (jm_e (je_call B (ok_L_cast fx) (ja_cons (je_var 0) (ja_cons (je_var 2) ja_nil))) (jm_e (je_call B (ok_L_cast fx) (ja_cons (je_var 0) (ja_cons (je_var 2) ja_nil))) jm_nil))) (jss_cons (js_parM2 8 9 B (jm_e (je_call B (ok_L_cast fx) (ja_cons (je_var 0) (ja_cons (je_var 2) ja_nil))) (jm_e (je_call B (ok_L_cast fx) (ja_cons (je_var 0) (ja_cons (je_var 2) ja_nil))) jm_nil))) (jss_cons (js_set 4 B (je_and (jx_cmp as_notIn (opD_notIn B.u65) (je_var 6) (je_tup (ja_cons (je_var 8) (ja_cons (je_var 9) ja_nil))) rfl) (je_one (jx_cmp as_notIn (opD_notIn B.u65) (je_var 7) (je_tup (ja_cons (je_var 8) (ja_cons (je_var 9) ja_nil))) rfl)))) (jss_cons (js_set 5 B (je_cmp opD_gt (je_ixC 13 (je_ixOwn 1 (je_var 6) fun _ _ => rfl) (je_var 8) fun _ _ => rfl) (je_ixC 13 (je_ixOwn 1 (je_var 6) fun _ _ => rfl) (je_var 9) fun _ _ => rfl) rfl)) (jss_one (js_if (jt_bool (jw_and (jt_val (je_var 4)) (jw_and (jt_val (je_var 5)) (jw_and1 (jt_cmp opD_gt (je_ixC 13 (je_ixOwn 1 (je_var 7) fun _ _ => rfl) (je_var 9) fun _ _ => rfl) (je_ixC 13 (je_ixOwn 1 (je_var 7) fun _ _ => rfl) (je_var 8) fun _ _ => rfl) rfl))))) (jss_one (js_for B (us := [10, 11, 12]) (ji_seq (je_tup (ja_cons (je_tup (ja_cons (je_var 6) (ja_cons (je_var 8) (ja_cons je_int ja_nil)))) (ja_cons (je_tup (ja_cons (je_var 6) (ja_cons (je_var 9) (ja_cons je_int ja_nil)))) (ja_cons (je_tup (ja_cons (je_var 7) (ja_cons (je_var 9) (ja_cons je_int ja_nil)))) (ja_cons (je_tup (ja_cons (je_var 7) (ja_cons (je_var 8) (ja_cons je_int ja_nil)))) ja_nil)))))) (jg_tup B.calm (jgs_cons (jg_name 10 B.nd) (jgs_cons (jg_name 11 B.nd) (jgs_cons (jg_name 12 B.nd) jgs_nil)))) (jss_one (js_setC 13 (je_ixOwn 1 (je_var 10) fun _ _ => rfl) (je_var 11) (je_var 12))))) jss_nil))))))) (jss_one (js_ret (je_frzC 1 13))))), pure_L_exchanged⟩
theorem ok_L_is_half (fx : Fx P w K mg base T) : DefOk P w K mg base T "_law_is_half" 1 ["_law_cells", "_law_cap"] F_L_is_half :=
  def_okX (st := s_L_is_half) (N := N_L_is_half) (k := 0) fx.d_L_is_half ⟨rfl, rfl, rfl, by decide +kernel, rfl, by decide +kernel, by decide +kernel⟩ (fun f fd D => D.bindsN fun _ _ _ _ _ _ us hl => match us, hl with | [_, _], _ => rfl) len_L_is_half
    fun cdv A outer s H E f B tk => ⟨w_L_is_half, (jss_cons (js_set 2 B (je_b1 (cb_len) fx.b_len (by decide +kernel) (je_b (je_var 0)))) (jss_cons (js_if (jtx_cmp as_ne (opD_ne B.u64) (je_var 1) je_int rfl) (jss_one (js_ret je_bl)) jss_nil) (jss_cons (js_if (jtx_cmp as_ne (opD_ne B.u64) (je_b1 (cb_len) fx.b_len (by decide +kernel) (je_b (jx_ix (je_var 0) je_int fun _ _ => rfl))) (je_var 2) rfl) (jss_one (js_ret je_bl)) jss_nil) (jss_cons (js_if (jtx_cmp as_ne (opD_ne B.u64) (jf_e (jf_comp [("_law_one", 4)] B (ji_range1 rfl fx.b_range (je_var 2)) (blkOk_by (by kernel_rfl)) (fun s H C cl fp => (jg_name 4 B.nd)) (fun s H C cl fp B => (jts_one (jtx_cmp as_ne (opD_ne B.u64) (jx_ix (jx_ix (je_var 0) (je_var 4) fun _ _ => rfl) (je_var 4) fun _ _ => rfl) je_int rfl))) (fun s H C cl fp B => (je_var 4)))) (jf_e (jf_lst ja_nil)) rfl) (jss_one (js_ret je_bl)) jss_nil) (jss_cons (js_setCompD 3 [("_law_one", 4)] B (ji_range1 rfl fx.b_range (je_var 2)) (blkOk_by (by kernel_rfl)) (fun s H C cl fp => (jg_name 4 B.nd)) (fun s H C cl fp B => jts_nil) (fun s H C cl fp B => (jx_b1 as_sum (cb_sum B.calm) fx.b_sum (by decide +kernel) (je_b (jf_e (jf_comp [("_law_line", 5)] B (ji_seq (je_var 0)) (blkOk_by (by kernel_rfl)) (fun s H C cl fp => (jg_name 5 B.nd)) (fun s H C cl fp B => jts_nil) (fun s H C cl fp B => (jx_ix (je_var 5) (je_var 4) fun _ _ => rfl))))))) (sw_true rfl rfl rfl (by kernel_rfl))) (jss_one (js_ret (jx_cmp as_eq (opD_eq B.u64) (jf_e (jf_comp [("_law_line", 5), ("_law_other", 6)] B (ji_zip rfl fx.b_zip (je_var 0) (je_var 3)) (blkOk_by (by kernel_rfl)) (fun s H C cl fp => (jg_tup B.calm (jgs_cons (jg_name 5 B.nd) (jgs_cons (jg_name 6 B.nd) jgs_nil)))) (fun s H C cl fp B => jts_nil) (fun s H C cl fp B => (jx_bin as_add opD_add (jx_b1 as_sum (cb_sum B.calm) fx.b_sum (by decide +kernel) (je_b (je_var 5))) (je_var 6))))) (jx_bin as_mul opD_mul (jf_e (jf_lst (ja_cons (je_bin opD_sub (je_var 2) je_int) ja_nil))) (je_var 2)) rfl)))))))), pure_L_is_half⟩
theorem ok_L_lines (fx : Fx P w K mg base T) : DefFr P w K mg base T "_law_lines" 1 ["_law_beaten"] F_L_lines :=
  def_okF (st := s_L_lines) (N := N_L_lines) (k := 0) fx.d_L_lines rfl ⟨rfl, rfl, rfl, by decide +kernel, rfl, by decide +kernel, by decide +kernel⟩ (fun f fd D => D.bindsN fun _ _ _ _ _ _ us hl => match us, hl with | [_], _ => rfl) len_L_lines
    fun cdv A outer s H E f B => ⟨w_L_lines, (jf_comp [("_law_row", 1)] B (ji_seq (je_var 0)) (blkOk_by (by kernel_rfl)) (fun s H C cl fp => (jg_name 1 B.nd)) (fun s H C cl fp B => jts_nil) (fun s H C cl fp B => (jf_e (jf_comp [("_law_other", 2)] B (ji_range1 rfl fx.b_range (je_b1 (cb_len) fx.b_len (by decide +kernel) (je_b (je_var 0)))) (blkOk_by (by kernel_rfl)) (fun s H C cl fp => (jg_name 2 B.nd)) (fun s H C cl fp B => jts_nil) (fun s H C cl fp B => (je_t1 cb_int fx.b_int (by decide +kernel) (je_b (jx_cmp as_in (opD_in B.u65) (je_var 2) (je_var 1) rfl)))))))), pure_L_lines⟩
theorem ok_L_linesC (fx : Fx P w K mg base T) : DefFc P w K mg base T "_law_lines" 1 ["_law_beaten"] F_L_linesC :=
  def_okFc (st := s_L_lines) (N := N_L_linesC) (k := 0) fx.d_L_lines rfl ⟨rfl, rfl, rfl, by decide +kernel, rfl, by decide +kernel, by decide +kernel⟩ (fun f fd D => D.bindsN fun _ _ _ _ _ _ us hl => match us, hl with | [_], _ => rfl) len_L_linesC
    fun cdv A outer s H E f B => ⟨w_L_linesC, 3, (jf_comp [("_law_row", 1)] B (ji_seq (je_var 0)) (blkOk_by (by kernel_rfl)) (fun s H C cl fp => (jg_name 1 B.nd)) (fun s H C cl fp B => jts_nil) (fun s H C cl fp B => (je_cell 3 (jf_comp [("_law_other", 2)] B (ji_range1 rfl fx.b_range (je_b1 (cb_len) fx.b_len (by decide +kernel) (je_b (je_var 0)))) (blkOk_by (by kernel_rfl)) (fun s H C cl fp => (jg_name 2 B.nd)) (fun s H C cl fp B => jts_nil) (fun s H C cl fp B => (je_t1 cb_int fx.b_int (by decide +kernel) (je_b (jx_cmp as_in (opD_in B.u65) (je_var 2) (je_var 1) rfl)))))))), pure_L_linesC⟩
theorem ok_L_pick (fx : Fx P w K mg base T) : DefOk P w K mg base T "_law_pick" 2 ["_law_die", "_law_items"] F_L_pick :=
  def_okX (st := s_L_pick) (N := N_L_pick) (k := 1) fx.d_L_pick ⟨rfl, rfl, rfl, by decide +kernel, rfl, by decide +kernel, by decide +kernel⟩ (fun f fd D => D.bindsN fun _ _ _ _ _ _ us hl => match us, hl with | [_, _], _ => rfl) len_L_pick
    fun cdv A outer s H E f B tk => ⟨w_L_pick, (jss_one (js_ret (jx_ix (je_var 1) (je_call B (ok_L_cast fx) (ja_cons (je_var 0) (ja_cons (je_b1 (cb_len) fx.b_len (by decide +kernel) (je_b (je_var 1))) ja_nil))) fun _ _ => rfl))), pure_L_pick⟩
theorem ok_L_near_cells (fx : Fx P w K mg base T) : DefOk P w K mg base T "_law_near_cells" 3 ["_law_die", "_law_cells"] F_L_near_cells :=
  def_okX (st := s_L_near_cells) (N := N_L_near_cells) (k := 2) fx.d_L_near_cells ⟨rfl, rfl, rfl, by decide +kernel, rfl, by decide +kernel, by decide +kernel⟩ (fun f fd D => D.bindsN fun _ _ _ _ _ _ us hl => match us, hl with | [_, _], _ => rfl) len_L_near_cells
    fun cdv A outer s H E f B tk => ⟨w_L_near_cells, (jss_cons (js_setComp 2 [("_law_line", 5)] B (ji_seq (je_var 1)) (blkOk_by (by kernel_rfl)) (fun s H C cl fp => (jg_name 5 B.nd)) (fun s H C cl fp B => jts_nil) (fun s H C cl fp B => (je_cell 6 (jf_t1 cf_list fx.b_list (by decide +kernel) (je_b (je_var 5))))) (sw_true rfl rfl rfl (by kernel_rfl))) (jss_cons (js_parM2 3 4 B (jm_e (je_call B (ok_L_cast fx) (ja_cons (je_var 0) (ja_cons (je_b1 (cb_len) fx.b_len (by decide +kernel) (je_b (je_var 1))) ja_nil))) (jm_e (je_call B (ok_L_cast fx) (ja_cons (je_var 0) (ja_cons (je_b1 (cb_len) fx.b_len (by decide +kernel) (je_b (je_var 1))) ja_nil))) jm_nil))) (jss_cons (js_setC 6 (je_ixOwn 2 (je_var 3) fun _ _ => rfl) (je_var 4) (je_bin opD_sub je_int (je_ixC 6 (je_ixOwn 2 (je_var 3) fun _ _ => rfl) (je_var 4) fun _ _ => rfl))) (jss_cons (js_if (jtx_cmp as_eq (opD_eq B.u64) (je_b1 (cb_len) fx.b_len (by decide +kernel) (je_b (je_var 1))) je_int rfl) (jss_one (js_ret (je_frzC 2 6))) jss_nil) (jss_one (js_ret (je_call B (ok_L_pick fx) (ja_cons (je_var 0) (ja_cons (jf_e (jf_lst (ja_cons (je_frzC 2 6) (ja_cons (jf_e (jf_comp [("_law_line", 5)] B (ji_seq (je_var 1)) (blkOk_by (by kernel_rfl)) (fun s H C cl fp => (jg_name 5 B.nd)) (fun s H C cl fp B => jts_nil) (fun s H C cl fp B => (je_slice (je_var 5) jo_none (jo_some (je_neg je_int)))))) (ja_cons (je_slice (je_var 1) (jo_some je_int) jo_none) ja_nil))))) ja_nil))))))))), pure_L_near_cells⟩
theorem ok_L_odd_one (fx : Fx P w K mg base T) : DefOk P w K mg base T "_law_odd_one" 3 ["_law_die"] F_L_odd_one :=
  def_okX (st := s_L_odd_one) (N := N_L_odd_one) (k := 2) fx.d_L_odd_one ⟨rfl, rfl, rfl, by decide +kernel, rfl, by decide +kernel, by decide +kernel⟩ (fun f fd D => D.bindsN fun _ _ _ _ _ _ us hl => match us, hl with | [_], _ => rfl) len_L_odd_one
    fun cdv A outer s H E f B tk => ⟨w_L_odd_one, (jss_cons (js_set 1 B (jf_e (jf_lst (ja_cons je_non (ja_cons je_int (ja_cons je_int (ja_cons je_int (ja_cons (je_neg je_int) (ja_cons je_bl (ja_cons je_bl (ja_cons je_str (ja_cons je_str (ja_cons je_str (ja_cons je_str (ja_cons (je_tup ja_nil) (ja_cons (je_tup (ja_cons je_int ja_nil)) (ja_cons (je_tup (ja_cons je_int (ja_cons je_int ja_nil))) (ja_cons (jf_e (jf_lst (ja_cons je_int ja_nil))) (ja_cons je_dict0 (ja_cons (je_tup (ja_cons je_int (ja_cons je_int (ja_cons je_int ja_nil)))) (ja_cons (je_tup (ja_cons (je_tup (ja_cons je_int ja_nil)) (ja_cons (je_tup (ja_cons je_int ja_nil)) (ja_cons (je_tup (ja_cons je_int ja_nil)) ja_nil)))) ja_nil))))))))))))))))))))) (jss_one (js_ret (je_call B (ok_L_pick fx) (ja_cons (je_var 0) (ja_cons (jx_bin as_add opD_add (je_var 1) (jf_e (jf_lst (ja_cons (jx_bin as_pow opD_pow je_int je_int) (ja_cons (je_tup (ja_cons je_non ja_nil)) (ja_cons (je_tup (ja_cons je_str (ja_cons (je_tup (ja_cons je_int ja_nil)) ja_nil))) (ja_cons (je_tup (ja_cons je_str (ja_cons (je_tup ja_nil) ja_nil))) (ja_cons (je_tup (ja_cons je_bl ja_nil)) (ja_cons (je_tup (ja_cons (je_neg je_int) (ja_cons je_int ja_nil))) (ja_cons je_str (ja_cons (je_tup (ja_cons je_int (ja_cons je_int ja_nil))) ja_nil))))))))))) ja_nil)))))), pure_L_odd_one⟩
theorem ok_L_right (fx : Fx P w K mg base T) : DefG P w K mg base T "_law_right" 11 ["_law_die"] F_L_right :=
  defG_okX (st := s_L_right) (N := N_L_right) (k := 10) fx.d_L_right fx.gx_L_right ⟨rfl, rfl, rfl, by decide +kernel, rfl, by decide +kernel, by decide +kernel⟩ (fun f fd D => D.bindsN fun _ _ _ _ _ _ us hl => match us, hl with | [_], _ => rfl) len_L_right
    fun A outer s H E gd B tk => ⟨w_L_right, (jss_cons (js_set 1 B (je_call B (ok_L_any_wins fx) (ja_cons (je_var 0) (ja_cons (jx_bin as_add opD_add je_int (je_call B (ok_L_cast fx) (ja_cons (je_var 0) (ja_cons je_int ja_nil)))) ja_nil)))) (jss_cons (js_set 2 B (je_call B (ok_L_played fx) (ja_cons (je_var 1) ja_nil))) (jss_cons (js_set 3 B (je_call B (ok_table_of_tournament fx) (ja_cons (je_var 2) ja_nil))) (jss_cons (js_if (jt_neO B (ok_Table_eq fx) fx.ne_Table (by simp [PySem.W.notFirst]) (je_var 3) (je_cmeth B (ok_Table_of fx) (ja_cons je_int (ja_cons (je_t1 cb_tuple fx.b_tuple (by decide +kernel) (je_b (jf_e (jf_comp [("_law_line", 11)] B (ji_seq (jf_e (jf_callF B (ok_L_lines fx) (ja_cons (je_var 1) ja_nil)))) (blkOk_by (by kernel_rfl)) (fun s H C cl fp => (jg_name 11 B.nd)) (fun s H C cl fp B => jts_nil) (fun s H C cl fp B => (je_t1 cb_tuple fx.b_tuple (by decide +kernel) (je_b (je_var 11)))))))) ja_nil)))) (jss_one (js_ret je_bl)) jss_nil) (jss_cons (js_if (jt_neO B (ok_Tournament_eq fx) fx.ne_Tournament (by simp [PySem.W.notFirst]) (je_call B (ok_halved fx) (ja_cons (je_var 3) ja_nil)) (je_var 2)) (jss_one (js_ret je_bl)) jss_nil) (jss_cons (js_set 4 B (je_callM B (ok_L_exchanged fx) (ok_L_linesC fx) (je_var 0) (ja_cons (je_var 1) ja_nil))) (jss_cons (js_set 5 B (je_cmeth B (ok_Table_of fx) (ja_cons je_int (ja_cons (je_t1 cb_tuple fx.b_tuple (by decide +kernel) (je_b (jf_e (jf_comp [("_law_line", 11)] B (ji_seq (je_var 4)) (blkOk_by (by kernel_rfl)) (fun s H C cl fp => (jg_name 11 B.nd)) (fun s H C cl fp B => jts_nil) (fun s H C cl fp B => (je_t1 cb_tuple fx.b_tuple (by decide +kernel) (je_b (je_var 11)))))))) ja_nil)))) (jss_cons (js_if (jt_bool (jw_or (jt_cmp opD_isNot (je_call B (ok_is_half_table fx) (ja_cons (je_var 5) ja_nil)) je_bl rfl) (jw_or1 (jt_not (jt_val (je_call B (ok_L_halved_right fx) (ja_cons (je_var 5) (ja_cons (je_var 4) ja_nil)))))))) (jss_one (js_ret je_bl)) jss_nil) (jss_cons (js_parM3 8 9 10 B (jm_e (je_call B (ok_L_near_cells fx) (ja_cons (je_var 0) (ja_cons (je_var 4) ja_nil))) (jm_e (je_call B (ok_L_pick fx) (ja_cons (je_var 0) (ja_cons (jf_e (jf_lst (ja_cons je_int (ja_cons je_int (ja_cons je_int ja_nil))))) ja_nil))) (jm_e (je_call B (ok_L_odd_one fx) (ja_cons (je_var 0) ja_nil)) jm_nil)))) (jss_cons (js_set 6 B (je_cmeth B (ok_Table_of fx) (ja_cons (je_var 9) (ja_cons (je_t1 cb_tuple fx.b_tuple (by decide +kernel) (je_b (jf_e (jf_comp [("_law_line", 11)] B (ji_seq (je_var 8)) (blkOk_by (by kernel_rfl)) (fun s H C cl fp => (jg_name 11 B.nd)) (fun s H C cl fp B => jts_nil) (fun s H C cl fp B => (je_t1 cb_tuple fx.b_tuple (by decide +kernel) (je_b (je_var 11)))))))) ja_nil)))) (jss_cons (js_set 7 B (je_call B (ok_L_is_half fx) (ja_cons (je_var 8) (ja_cons (je_var 9) ja_nil)))) (jss_cons (js_if (jt_bool (jw_or (jtx_cmp as_ne (opD_ne B.u64) (je_call B (ok_is_half_table fx) (ja_cons (je_var 6) ja_nil)) (je_var 7) rfl) (jw_or1 (jtx_cmp as_ne (opD_ne B.u64) (je_cmp opD_isNot (je_outQ (kb := 8) gd B (od_L_met fx) fx.lm_L_right fun A outer s H E f c B => (je_call B (ok_halved fx) (ja_cons (je_var 6) ja_nil))) je_non rfl) (je_var 7) rfl)))) (jss_one (js_ret je_bl)) jss_nil) (jss_one (js_ret (je_and (je_cmp opD_is (je_call B (ok_is_half_table fx) (ja_cons (je_var 10) ja_nil)) je_bl rfl) (je_one (je_cmp opD_is (je_call B (ok_is_half_table fx) (ja_cons (je_var 2) ja_nil)) je_bl rfl))))))))))))))))), pure_L_right⟩
theorem ok_law (fx : Fx P w K mg base T) : DefG P w K mg base T "law" 12 ["_law_script"] F_law :=
  defG_okX (st := s_law) (N := N_law) (k := 11) fx.d_law fx.gx_law ⟨rfl, rfl, rfl, by decide +kernel, rfl, by decide +kernel, by decide +kernel⟩ (fun f fd D => D.bindsN fun _ _ _ _ _ _ us hl => match us, hl with | [_], _ => rfl) len_law
    fun A outer s H E gd B tk => ⟨w_law, (jss_cons (js_for B (us := [1]) (ji_range1 rfl fx.b_range (je_bN (cn_max2 B.calm) fx.b_max (by decide +kernel) (ja_cons je_int (ja_cons (je_bN (cn_min2 B.calm) fx.b_min (by decide +kernel) (ja_cons je_int (ja_cons (je_b1 (cb_len) fx.b_len (by decide +kernel) (je_b (je_var 0))) ja_nil))) ja_nil)))) (jg_name 1 B.nd) (jss_cons (js_set 4 B (je_call B (ok_L_numbers fx) (ja_cons (je_var 0) (ja_cons (je_var 1) ja_nil)))) (jss_one (js_if (jt_bool (jw_or (jt_not (jt_val (je_callG B gd (ok_L_right fx) (ja_cons (je_var 4) ja_nil)))) (jw_or1 (jt_not (jt_val (je_callG B gd (ok_L_right fx) (ja_cons (je_var 4) ja_nil))))))) (jss_one (js_ret je_bl)) jss_nil)))) (jss_cons (js_set 2 B (jf_e (jf_lst (ja_cons (jf_e (jf_lst (ja_cons je_int (ja_cons je_int (ja_cons je_int (ja_cons je_int ja_nil)))))) (ja_cons (jf_e (jf_lst (ja_cons je_int (ja_cons je_int (ja_cons je_int (ja_cons je_int ja_nil)))))) (ja_cons (jf_e (jf_lst (ja_cons je_int (ja_cons je_int (ja_cons je_int (ja_cons je_int ja_nil)))))) (ja_cons (jf_e (jf_lst (ja_cons je_int (ja_cons je_int (ja_cons je_int (ja_cons je_int ja_nil)))))) ja_nil))))))) (jss_cons (js_set 3 B (je_cmeth B (ok_Table_of fx) (ja_cons je_int (ja_cons (je_t1 cb_tuple fx.b_tuple (by decide +kernel) (je_b (jf_e (jf_comp [("_law_line", 5)] B (ji_seq (je_var 2)) (blkOk_by (by kernel_rfl)) (fun s H C cl fp => (jg_name 5 B.nd)) (fun s H C cl fp B => jts_nil) (fun s H C cl fp B => (je_t1 cb_tuple fx.b_tuple (by decide +kernel) (je_b (je_var 5)))))))) ja_nil)))) (jss_cons (js_if (jt_not (jt_val (je_call B (ok_is_half_table fx) (ja_cons (je_var 3) ja_nil)))) (jss_one (js_ret je_bl)) jss_nil) (jss_cons (js_if (jt_not (jt_val (je_call B (ok_L_halved_right fx) (ja_cons (je_var 3) (ja_cons (je_var 2) ja_nil))))) (jss_one (js_ret je_bl)) jss_nil) (jss_one (js_ret (jx_cmp as_eq (opD_eq B.u64) (je_prop B (ok_Tournament_scores fx) (je_call B (ok_halved fx) (ja_cons (je_var 3) ja_nil))) (je_tup (ja_cons je_int (ja_cons je_int (ja_cons je_int (ja_cons je_int ja_nil))))) rfl)))))))), pure_law⟩
end
end Pr

namespace Pr
open PySem PySem.Spec PyProof.Rows L2 LamX Pd Hd
theorem exb_InvalidNumber : ∃ me p0 p1 p2 p4 p5 p6 p7 p8 p9, ExB "value" "value" s_InvalidNumber_init me (fun _ => True) p0 p1 p2 p4 p5 p6 p7 p8 p9 := ⟨_, _, _, _, _, _, _, _, _, _, rfl, rfl, rfl, rfl, rfl, rfl, rfl, by decide +kernel, rfl, rfl, by decide, by decide, fun _ _ _ _ _ => rfl, fun _ _ _ _ _ => rfl, fun _ _ _ _ _ => rfl, fun _ _ _ _ _ => ⟨_, rfl⟩, fun _ => rfl, fun _ _ _ _ _ _ _ _ _ _ => rfl, msg_text⟩
theorem exb_TooMany : ∃ me p0 p1 p2 p4 p5 p6 p7 p8 p9, ExB "limit" "limit" s_TooMany_init me intG p0 p1 p2 p4 p5 p6 p7 p8 p9 := ⟨_, _, _, _, _, _, _, _, _, _, rfl, rfl, rfl, rfl, rfl, rfl, rfl, by decide +kernel, rfl, rfl, by decide, by decide, fun _ _ _ _ _ => rfl, fun _ _ _ _ _ => rfl, fun _ _ _ _ _ => rfl, fun _ _ _ _ _ => ⟨_, rfl⟩, fun _ => rfl, fun _ _ _ _ _ _ _ _ _ _ => rfl, msg_int rfl rfl (by decide) rfl rfl⟩
theorem fx_of {w : World} {K : PySem.W.Frag} {h base : Heap} {mg : Str → Option Value} (X : K.In h) (G : h.Ns mainGlobals mg) (c : SaysZ fa fn fb xi tf ex h K) (lt : ∀ y ∈ tf, LamT K mg base (tabT K tf) y) : Fx PySem.Challenge.rw_sumsalone_k41_whole_tables_and_halves.prog w K mg base (tabT K tf) where
  d_is_integer := hasD_of X G c.d 0 0 rfl rfl
  d_is_from := hasD_of X G c.d 1 1 rfl rfl
  d_is_cap := hasD_of X G c.d 4 4 rfl rfl
  d_is_line := hasD_of X G c.d 5 5 rfl rfl
  d_are_lines := hasD_of X G c.d 6 6 rfl rfl
  d_L_numbers := hasD_of X G c.d 15 20 rfl rfl
  d_is_half := hasD_of X G c.d 11 16 rfl rfl
  d_is_half_table := hasD_of X G c.d 12 17 rfl rfl
  d_is_ascending := hasD_of X G c.d 2 2 rfl rfl
  d_are_indices := hasD_of X G c.d 3 3 rfl rfl
  d_are_results := hasD_of X G c.d 8 10 rfl rfl
  d_halves_of := hasD_of X G c.d 13 18 rfl rfl
  d_halved := hasD_of X G c.d 14 19 rfl rfl
  d_require_index := hasD_of X G c.d 7 7 rfl rfl
  d_L_halved_right := hasD_of X G c.d 25 30 rfl rfl
  d_L_cast := hasD_of X G c.d 16 21 rfl rfl
  d_L_any_wins := hasD_of X G c.d 19 24 rfl rfl
  d_L_played := hasD_of X G c.d 20 25 rfl rfl
  d_require_tournament := hasD_of X G c.d 9 14 rfl rfl
  d_table_of_tournament := hasD_of X G c.d 10 15 rfl rfl
  d_L_exchanged := hasD_of X G c.d 23 28 rfl rfl
  d_L_is_half := hasD_of X G c.d 24 29 rfl rfl
  d_L_lines := hasD_of X G c.d 22 27 rfl rfl
  d_L_pick := hasD_of X G c.d 17 22 rfl rfl
  d_L_near_cells := hasD_of X G c.d 26 31 rfl rfl
  d_L_odd_one := hasD_of X G c.d 18 23 rfl rfl
  d_L_right := hasD_of X G c.d 27 32 rfl rfl
  d_law := hasD_of X G c.d 28 33 rfl rfl
  d_L_met := hasD_of X G c.d 21 26 rfl rfl
  cl_Table := He.cls_ok (c.d.fact 61 (f := .cls "Table") rfl)
  cl_Tournament := He.cls_ok (c.d.fact 62 (f := .cls "Tournament") rfl)
  cm_Table_of := cmB_ok (Hd.ex_5 c.x)
  cm_Tournament_of := cmB_ok (Hd.ex_6 c.x)
  emq_L_met := exq_all (Hd.ex_0 c.x)
  gl_InvalidOperation := He.glo_ok X G (c.d.fact 31 (f := .glo "InvalidOperation") rfl)
  gl_Table := He.glo_ok X G (c.d.fact 34 (f := .glo "Table") rfl)
  gl_Tournament := He.glo_ok X G (c.d.fact 35 (f := .glo "Tournament") rfl)
  gx_L_right := He.glo_ok X G (c.d.fact 27 (f := .glo "_law_right") rfl)
  gx_law := He.glo_ok X G (c.d.fact 28 (f := .glo "law") rfl)
  i_Table := hasM_of c.d 8 rfl
  i_Tournament := hasM_of c.d 11 rfl
  ic_Table := isCB_ok (Hd.ex_7 c.x)
  ic_Tournament := isCB_ok (Hd.ex_8 c.x)
  im_Table_eq := hasM_of c.d 9 rfl
  im_Tournament_beats := hasM_of c.d 12 rfl
  im_Tournament_eq := hasM_of c.d 13 rfl
  lm_L_right := lt "_law_right" (by decide)
  mk_Table := He.mkr_ok (c.d.fact 63 (f := .mkr "Table") rfl)
  mk_Tournament := He.mkr_ok (c.d.fact 64 (f := .mkr "Tournament") rfl)
  mt_Table_eq := He.meth_ok (c.d.fact 65 (f := .meth "Table" "__eq__") rfl)
  mt_Tournament_beats := He.meth_ok (c.d.fact 66 (f := .meth "Tournament" "beats") rfl)
  mt_Tournament_eq := He.meth_ok (c.d.fact 67 (f := .meth "Tournament" "__eq__") rfl)
  na_Table_own_cap := He.noat_ok (c.d.fact 68 (f := .noat "Table" "own_cap") rfl)
  na_Table_own_lines := He.noat_ok (c.d.fact 69 (f := .noat "Table" "own_lines") rfl)
  na_Tournament_own_beaten := He.noat_ok (c.d.fact 70 (f := .noat "Tournament" "own_beaten") rfl)
  ne_Table := neB_ok (Hd.ex_9 c.x)
  ne_Tournament := neB_ok (Hd.ex_10 c.x)
  p_Table_column_sums := propB_ok (Hd.ex_11 c.x)
  p_Table_line_sums := propB_ok (Hd.ex_12 c.x)
  p_Tournament_scores := propB_ok (Hd.ex_13 c.x)
  q_Table_column_sums := hasA_of c.a 2 rfl
  q_Table_line_sums := hasA_of c.a 3 rfl
  q_Tournament_scores := hasA_of c.a 4 rfl
  qc_Table_of := hasA_of c.a 0 rfl
  qc_Tournament_of := hasA_of c.a 1 rfl
  xc_InvalidOperation := excC_of (c.d.fact 58 (f := .exc "InvalidOperation") rfl) (He.glo_ok X G (c.d.fact 31 (f := .glo "InvalidOperation") rfl))
  xc_InvalidTable := excC_of (c.d.fact 59 (f := .exc "InvalidTable") rfl) (He.glo_ok X G (c.d.fact 29 (f := .glo "InvalidTable") rfl))
  xc_InvalidTournament := excC_of (c.d.fact 60 (f := .exc "InvalidTournament") rfl) (He.glo_ok X G (c.d.fact 30 (f := .glo "InvalidTournament") rfl))
  xv_InvalidNumber := exV_of (B := "IndexError") (i := "IndexError.__init__") (newId := "IndexError.__new__") (bmB := [.type "IndexError", .type "LookupError", .type "Exception", .type "BaseException", .type "object"]) (pv := "value") (st := s_InvalidNumber_init) PySem.F.excBase_IndexError PySem.W.kxs_IndexError PySem.F.store_IndexError (Hd.ex_1 c.x) (ini_ok (d := ⟨"InvalidNumber", s_InvalidNumber_init⟩) (Hd.ex_2 c.x) (Hd.xi_0 c.i)) exb_InvalidNumber (by decide +kernel) (by decide +kernel) (He.free_ok X G (c.d.fact 52 (f := .free "super") rfl)) (He.glo_ok X G (c.d.fact 32 (f := .glo "InvalidNumber") rfl))
  xv_TooMany := exV_of (B := "OverflowError") (i := "OverflowError.__init__") (newId := "OverflowError.__new__") (bmB := [.type "OverflowError", .type "ArithmeticError", .type "Exception", .type "BaseException", .type "object"]) (pv := "limit") (st := s_TooMany_init) PySem.F.excBase_OverflowError PySem.W.kxs_OverflowError PySem.F.store_OverflowError (Hd.ex_3 c.x) (ini_ok (d := ⟨"TooMany", s_TooMany_init⟩) (Hd.ex_4 c.x) (Hd.xi_1 c.i)) exb_TooMany (by decide +kernel) (by decide +kernel) (He.free_ok X G (c.d.fact 52 (f := .free "super") rfl)) (He.glo_ok X G (c.d.fact 33 (f := .glo "TooMany") rfl))
  b_abs := He.free_ok X G (c.d.fact 36 (f := .free "abs") rfl)
  b_all := He.free_ok X G (c.d.fact 37 (f := .free "all") rfl)
  b_any := He.free_ok X G (c.d.fact 38 (f := .free "any") rfl)
  b_bool := He.free_ok X G (c.d.fact 39 (f := .free "bool") rfl)
  b_enumerate := He.free_ok X G (c.d.fact 41 (f := .free "enumerate") rfl)
  b_int := He.free_ok X G (c.d.fact 42 (f := .free "int") rfl)
  b_isinstance := He.free_ok X G (c.d.fact 43 (f := .free "isinstance") rfl)
  b_len := He.free_ok X G (c.d.fact 44 (f := .free "len") rfl)
  b_list := He.free_ok X G (c.d.fact 45 (f := .free "list") rfl)
  b_max := He.free_ok X G (c.d.fact 46 (f := .free "max") rfl)
  b_min := He.free_ok X G (c.d.fact 47 (f := .free "min") rfl)
  b_range := He.free_ok X G (c.d.fact 49 (f := .free "range") rfl)
  b_sorted := He.free_ok X G (c.d.fact 50 (f := .free "sorted") rfl)
  b_sum := He.free_ok X G (c.d.fact 51 (f := .free "sum") rfl)
  b_tuple := He.free_ok X G (c.d.fact 53 (f := .free "tuple") rfl)
  b_zip := He.free_ok X G (c.d.fact 54 (f := .free "zip") rfl)
  c_MAX_CAP := He.int_ok X G (c.d.fact 55 (f := .int "MAX_CAP" 9) rfl)
  c_MAX_LINES := He.int_ok X G (c.d.fact 56 (f := .int "MAX_LINES" 12) rfl)
  c_MAX_PLACES := He.int_ok X G (c.d.fact 57 (f := .int "MAX_PLACES" 16) rfl)
end Pr
open PySem PySem.W PySem.Calls PyProof.Rows
theorem PySem.Challenge.cw_sumsalone_k41_whole_tables_and_halves_holds : PySem.Challenge.rw_sumsalone_k41_whole_tables_and_halves.Holds := by
  w_on; o_law
  refine HandSHeadRun.head_any (r := OpenLaw.row PySem.Challenge.rw_sumsalone_k41_whole_tables_and_halves) (q := view (OpenLaw.row PySem.Challenge.rw_sumsalone_k41_whole_tables_and_halves).prog [48]) (H := Hd.hk) (ob := Hd.ob) (M := 12000) (loose := Hd.loose) (d := HandSHeadRun.topDef (OpenLaw.row PySem.Challenge.rw_sumsalone_k41_whole_tables_and_halves).prog 48) (kwd := []) Hd.ob_eq
    (by kernel_rfl) (fun s => by kernel_rfl) Hd.run (by kernel_rfl) (by kernel_rfl) (by kernel_rfl) (by rfl) (by first | assumption | decide +kernel) (by decide +kernel) ⟨rfl, rfl, rfl, rfl, rfl, by decide +kernel⟩ ?hw ?hc
  case hw => w_witness2
  case hc =>
    exact Pd.law_endV (l := PySem.Challenge.rw_sumsalone_k41_whole_tables_and_halves) (k := 12) (x := "_law_script") (st := Hd.s_law) (F := Pr.F_law) rfl (by kernel_rfl) ⟨rfl, by decide, by decide⟩ (by kernel_rfl)
      (fun w K mg h base KX G c => ⟨Pd.hasD_of KX G c.d 28 33 rfl rfl, fun lt => id (Pr.ok_law (Pr.fx_of KX G c lt))⟩)
      (fun K f fd D s u => D.bindsA (ps := ["_law_script"]) (fun _ _ _ _ _ _ us hl => match us, hl with | [_], _ => rfl) s [u] rfl) Pr.law_true

